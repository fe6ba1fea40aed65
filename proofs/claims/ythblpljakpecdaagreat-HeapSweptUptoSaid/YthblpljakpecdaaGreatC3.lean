/- Part 3 of the proof of heapSwept_holds. Conditions: none. -/
import Derived.Test.YthblpljakpecdaaGreatC2
set_option linter.unusedVariables false
set_option linter.unusedSimpArgs false
set_option linter.unusedSectionVars false
set_option maxRecDepth 100000
open Go.Proofs.Tryz
namespace Go.Vk.Tryz
open Go.RowKit
set_option maxHeartbeats 4000000 in
theorem e7 {w0: World} {H: PHeap} {L: List Ent} {p: Nat} {h: HS} (hI: Inv w0 H L) (hK: HK p h L) (hO: h.Ok) {A: Option Addr} {c: Nat} {xs: List Wd} (hr: RowG 4 Wd.cells H A c xs): Calls prog 30 #[(pB p),(.slice A xs.length c)] w0 (fun e w'=> ∃ H',e=.returned (iV (auditS h.S xs))/\Step w0 H L w' H' L):=by
 obtain⟨bs,c8,d8⟩:=hK;have C:=Step.refl hI;have hl:=HK.len hO c8;have hu:=hO.u;have hu: -100000000000<=h.u/\h.u<=100000000000:=by omega
 have kt:=hr.2.1;have ks:=hr.1;refine enter [(pB p),(.slice A xs.length c)] func30 J ntmps30 J fun a q=>?_;refine wp_seq (ab (Ls J q fun a q=>?_));refine wpList_nil (aa (wp_seq (wp_seq (ab (Lm J q fun a q=>?_)))));refine lin J (aW T44.und T103 q J J J fun a q=>?_);refine Lm J q fun a q=>?_;refine ae J q J J J (aj q J J fun a q=>?_);refine ae J q J J J (aj q J J fun a q=>?_);have ij:=eH (C.tail []) d8 ((RdG.of_data C.inv hr).fewer (bx []));refine ae J q J J J (aD func55 J J (q.evs J) q J (ij) ?_);rintro e w ⟨rfl,ea⟩;refine⟨_,rfl,fun a q=>?_⟩;have C:=C.frameR [] ea;refine ae J q J J J (aS q J J fun a q=>?_);refine lin J (am q J J J fun a q=>?_);refine wpList_nil (aa (au (t:=27) q J (fun h2 q=>?_) (fun h2 q=>?_)))
 ·refine ap q J (wp_seq (ab (Ls J q fun a q=>?_)));refine wpList_nil (aa (wp_ret (ai (ret1 J q J ?_))));have a3: auditS (er bs) xs=211:=by
   unfold auditS;rw [if_pos (by simpa using h2)]
  rw [c8] at a3;rw [a3];exact⟨_,rfl,C⟩
 ·have cg: allS (er bs) xs=true:=by simpa using h2
  refine ah q J (wp_skip (aa (wp_seq ?_)));obtain⟨c3,c4,cz,d2,bj,bv,bw,fa,kc,kd,kg,ki,ke,k8⟩:=(d8).open_;have C:=Step.castR [] fa C;have kj:=C;let cl:=(eO p 103 #[(.slice c3 bs.length c4),(.slice cz bs.length d2),(iV h.u)]);refine As.c_draw_head (ini:=(As.il [])) (sup:=(As.sl [(12,14)])) (als:= [5,11,12,14,13]) (s0:=⟨H,fun _=>none⟩) (L:=(cl::bj::bv::(fl3 bw))) (N:=122) (E:= [(0,(pB p)),(1,(.slice A xs.length c))]) 15 [fun _ v=>v=(pB p),fun _ v=>v=(pB p),fun _ v=>v=(pB p),fun _ v=>v=(.slice c3 bs.length c4),fun _ v=>v=(iV ((bs.length: Nat): Int)),fun s v=> ∃ b,s.ax 5=some [(eO b 3 (ints (List.replicate bs.length 0)).toArray)]/\v=(.slice (some ⟨b,0,none⟩) bs.length bs.length)/\Row (.slice (some ⟨b,0,none⟩) bs.length bs.length) (eO b 3 (ints (List.replicate bs.length 0)).toArray) 3 1 bs.length (ints (List.replicate bs.length 0)),fun _ v=>v=(pB p),fun _ v=>v=(pB p),fun _ v=>v=(pB p),fun _ v=>v=(.slice c3 bs.length c4),fun _ v=>v=(iV ((bs.length: Nat): Int)),fun s v=> ∃ b,s.ax 11=some [(eO b 4 (bls (List.replicate bs.length false)).toArray)]/\v=(.slice (some ⟨b,0,none⟩) bs.length bs.length)/\Row (.slice (some ⟨b,0,none⟩) bs.length bs.length) (eO b 4 (bls (List.replicate bs.length false)).toArray) 4 1 bs.length (bls (List.replicate bs.length false)),fun s v=> ∃ b,s.ax 12=some [(eO b 26 #[(.slice none 0 0)])]/\v=.pointer (some ⟨b,0,none⟩),fun s v=> ∃ b,s.ax 13=some [(eO b 101 #[(.slice none 0 0)])]/\v=.pointer (some ⟨b,0,none⟩),fun s _=> ∃(b d0: Nat),s.ax 12=some [(eO b 26 #[(.slice none 0 0)])]/\s.ax 14=some [(eO b 26 #[(.slice (some ⟨d0,0,none⟩) bs.length bs.length)])]/\s.ax 5=some [(eO d0 3 (ints (List.replicate bs.length 0)).toArray)]] mixed J J J (As.Monos.cons (fun _ _ _ _ h=>h) (As.Monos.cons (fun _ _ _ _ h=>h) (As.Monos.cons (fun _ _ _ _ h=>h) (As.Monos.cons (fun _ _ _ _ h=>h) (As.Monos.cons (fun _ _ _ _ h=>h) (As.Monos.cons (fun _ _ _ hl ⟨b,h,e⟩=>⟨b,hl.get h,e⟩) (As.Monos.cons (fun _ _ _ _ h=>h) (As.Monos.cons (fun _ _ _ _ h=>h) (As.Monos.cons (fun _ _ _ _ h=>h) (As.Monos.cons (fun _ _ _ _ h=>h) (As.Monos.cons (fun _ _ _ _ h=>h) (As.Monos.cons (fun _ _ _ hl ⟨b,h,e⟩=>⟨b,hl.get h,e⟩) (As.Monos.cons (fun _ _ _ hl ⟨b,h,e⟩=>⟨b,hl.get h,e⟩) (As.Monos.cons (fun _ _ _ hl ⟨b,h,e⟩=>⟨b,hl.get h,e⟩) (As.Monos.cons (fun _ _ _ hl ⟨b,d0,h1,h2,gq⟩=>⟨b,d0,hl.get h1,hl.get h2,hl.get gq⟩) (As.Monos.nil)))))))))))))))) (fun _=>rfl) C (q.pk J) (As.QuietsI.cons ?_ (As.QuietsI.cons ?_ (As.QuietsI.cons ?_ (As.QuietsI.cons ?_ (As.QuietsI.cons ?_ (As.QuietsI.cons ?_ (As.QuietsI.cons ?_ (As.QuietsI.cons ?_ (As.QuietsI.cons ?_ (As.QuietsI.cons ?_ (As.QuietsI.cons ?_ (As.QuietsI.cons ?_ (As.QuietsI.cons ?_ (As.QuietsI.cons ?_ (As.QuietsI.cons ?_ (As.QuietsI.nil)))))))))))))))) (fun k6 a w jk b1 C q cm=>?_)
  ·refine As.Qx J fun a w X G b7 a8 C q a2 b1=>?_;have ay:=C;refine id (aj q J J fun a q=>?_);exact As.qdone (s:=⟨X,G⟩) (Le.refl _) q ay J
  ·refine As.Qx J fun a w X G b7 a8 C q a2 b1=>?_;obtain⟨_,q,rfl⟩:=a2.g q 0 J;have ay:=C;refine id (av q J J fun a q=>?_);exact As.qdone (s:=⟨X,G⟩) (Le.refl _) q ay J
  ·refine As.Qx J fun a w X G b7 a8 C q a2 b1=>?_;obtain⟨_,q,rfl⟩:=a2.g q 1 J;have ay:=C;refine id (ac (f:=0) (o2:=0) T103 T100 J J J J q J J fun a q=>?_);exact As.qdone (s:=⟨X,G⟩) (Le.refl _) q ay J
  ·refine As.Qx J fun a w X G b7 a8 C q a2 b1=>?_;obtain⟨_,q,rfl⟩:=a2.g q 2 J;have ay:=C;have C:=Step.dropN _ _ C;refine id (af (v:=(.slice c3 bs.length c4)) T100 J q J (C.blkL 0 J) J J fun a q=>?_);exact As.qdone (s:=⟨X,G⟩) (Le.refl _) q ay J
  ·refine As.Qx J fun a w X G b7 a8 C q a2 b1=>?_;obtain⟨_,q,rfl⟩:=a2.g q 3 J;have ay:=C;have hm:=Step.dropN _ _ C;refine id (aI T100.und q J J fun a q=>?_);exact As.qdone (s:=⟨X,G⟩) (Le.refl _) q C J
  ·refine As.Qx J fun a w X G b7 a8 C q a2 b1=>?_;obtain⟨_,q,rfl⟩:=a2.g q 4 J;have C: Step w0 H L w X ((As.aents (As.il []) (As.sl [(12,14)]) [] G++As.aents (As.il []) (As.sl [(12,14)]) [11,12,14,13] G++(cl::bj::bv::(fl3 bw)))):=As.opn (s:=⟨X,G⟩) [] [5] [11,12,14,13] [] J (As.con0 a8 J) C;refine id (eR (k:=bs.length) T26.und T3 J J C q J J j0 j0 j0 J J fun I a w ct C q=>?_);rw [zcells_int] at ct C;exact As.qown (i:=5) (dst:=some 33) (s:=⟨X,G⟩) (E:= [(eO I 3 (ints (List.replicate bs.length 0)).toArray)]) [] [5] [11,12,14,13] J J a8 (Le.refl _) q.dfr (As.has_at q) C As.con1 ⟨_,rfl,rfl,ct⟩
  ·refine As.Qx J fun a w X G b7 a8 C q a2 b1=>?_;have ay:=C;refine id (aj q J J fun a q=>?_);exact As.qdone (s:=⟨X,G⟩) (Le.refl _) q ay J
  ·refine As.Qx J fun a w X G b7 a8 C q a2 b1=>?_;obtain⟨_,q,rfl⟩:=a2.g q 6 J;have ay:=C;refine id (av q J J fun a q=>?_);exact As.qdone (s:=⟨X,G⟩) (Le.refl _) q ay J
  ·refine As.Qx J fun a w X G b7 a8 C q a2 b1=>?_;obtain⟨_,q,rfl⟩:=a2.g q 7 J;have ay:=C;refine id (ac (f:=0) (o2:=0) T103 T100 J J J J q J J fun a q=>?_);exact As.qdone (s:=⟨X,G⟩) (Le.refl _) q ay J
  ·refine As.Qx J fun a w X G b7 a8 C q a2 b1=>?_;obtain⟨_,q,rfl⟩:=a2.g q 8 J;have ay:=C;have C:=Step.dropN _ _ C;refine id (af (v:=(.slice c3 bs.length c4)) T100 J q J (C.blkL 0 J) J J fun a q=>?_);exact As.qdone (s:=⟨X,G⟩) (Le.refl _) q ay J
  ·refine As.Qx J fun a w X G b7 a8 C q a2 b1=>?_;obtain⟨_,q,rfl⟩:=a2.g q 9 J;have ay:=C;have hm:=Step.dropN _ _ C;refine id (aI T100.und q J J fun a q=>?_);exact As.qdone (s:=⟨X,G⟩) (Le.refl _) q C J
  ·refine As.Qx J fun a w X G b7 a8 C q a2 b1=>?_;obtain⟨_,q,rfl⟩:=a2.g q 10 J;have C: Step w0 H L w X ((As.aents (As.il []) (As.sl [(12,14)]) [5] G++As.aents (As.il []) (As.sl [(12,14)]) [12,14,13] G++(cl::bj::bv::(fl3 bw)))):=As.opn (s:=⟨X,G⟩) [5] [11] [12,14,13] [] J (As.con0 a8 J) C;refine id (eR (k:=bs.length) T101.und T4 J J C q J J j0 j0 j0 J J fun V a w d9 C q=>?_);rw [cM] at d9 C;exact As.qown (i:=11) (dst:=some 39) (s:=⟨X,G⟩) (E:= [(eO V 4 (bls (List.replicate bs.length false)).toArray)]) [5] [11] [12,14,13] J J a8 (Le.refl _) q.dfr (As.has_at q) C As.con1 ⟨_,rfl,rfl,d9⟩
  ·refine As.Qx J fun a w X G b7 a8 C q a2 b1=>?_;have C: Step w0 H L w X ((As.aents (As.il []) (As.sl [(12,14)]) [5,11] G++As.aents (As.il []) (As.sl [(12,14)]) [14,13] G++(cl::bj::bv::(fl3 bw)))):=As.opn (s:=⟨X,G⟩) [5,11] [12] [14,13] [] J (As.con0 a8 J) C;refine aE (cs:= #[(.slice none 0 0)]) T26 C q J J fun O a w C q=>?_;exact As.qown (i:=12) (dst:=some 5) (s:=⟨X,G⟩) (E:= [(eO O 26 #[(.slice none 0 0)])]) [5,11] [12] [14,13] J J a8 (Le.refl _) q.dfr (As.has_at q) C As.con1 ⟨O,rfl,rfl⟩
  ·refine As.Qx J fun a w X G b7 a8 C q a2 b1=>?_;have C: Step w0 H L w X ((As.aents (As.il []) (As.sl [(12,14)]) [5,11,12,14] G++As.aents (As.il []) (As.sl [(12,14)]) [] G++(cl::bj::bv::(fl3 bw)))):=As.opn (s:=⟨X,G⟩) [5,11,12,14] [13] [] [] J (As.con0 a8 J) C;refine aE (cs:= #[(.slice none 0 0)]) T101 C q J J fun Z a w C q=>?_;exact As.qown (i:=13) (dst:=some 6) (s:=⟨X,G⟩) (E:= [(eO Z 101 #[(.slice none 0 0)])]) [5,11,12,14] [13] [] J J a8 (Le.refl _) q.dfr (As.has_at q) C As.con1 ⟨Z,rfl,rfl⟩
  ·refine As.Qx J fun a w X G b7 a8 C q a2 b1=>?_;obtain⟨_,q,O,c2,rfl⟩:=a2.g q 12 J;have c2: G 12=some [(eO O 26 #[(.slice none 0 0)])]:=c2;obtain⟨_,q,I,ca,rfl,ct⟩:=a2.g q 5 J;have ca: G 5=some [(eO I 3 (ints (List.replicate bs.length 0)).toArray)]:=ca;have C: Step w0 H L w X ((eO O 26 #[(.slice none 0 0)])::(As.aents (As.il []) (As.sl [(12,14)]) [5,11] G++As.aents (As.il []) (As.sl [(12,14)]) [13] G++(cl::bj::bv::(fl3 bw)))):=As.opn (s:=⟨X,G⟩) [5,11] [12,14] [13] [(eO O 26 #[(.slice none 0 0)])] J (As.con2 J J J c2 a8) C;refine id (ak (cs':= #[(.slice (some ⟨I,0,none⟩) bs.length bs.length)]) T26 C (i:=0) J q J J J J J J fun a w C q=>?_);exact As.qown (i:=14) (dst:=none) (s:=⟨X,G⟩) (E:= [(eO O 26 #[(.slice (some ⟨I,0,none⟩) bs.length bs.length)])]) [5,11] [12,14] [13] J J a8 (Le.refl _) q.dfr (v:=undef) (fun _ h=>by cases h) C (.inl (As.con2' J J)) ⟨O,I,c2,rfl,ca⟩
  obtain⟨dk,G⟩:=jk;have ir: Le H dk:=b1.le;dsimp only at cm C;have hr:=hr.mono ir;obtain⟨_,c9,I,ca,rfl,ct⟩:=cm 5 _ _ J J;have q:=q.add (c9 _ J);have ca: G 5=some [(eO I 3 (ints (List.replicate bs.length 0)).toArray)]:=ca;obtain⟨_,c9,V,ev,rfl,d9⟩:=cm 11 _ _ J J;have q:=q.add (c9 _ J);have ev: G 11=some [(eO V 4 (bls (List.replicate bs.length false)).toArray)]:=ev;obtain⟨_,c9,O,c2,rfl⟩:=cm 12 _ _ J J;have q:=q.add (c9 _ J);have c2: G 12=some [(eO O 26 #[(.slice none 0 0)])]:=c2;obtain⟨_,c9,Z,ew,rfl⟩:=cm 13 _ _ J J;have q:=q.add (c9 _ J);have ew: G 13=some [(eO Z 101 #[(.slice none 0 0)])]:=ew;obtain⟨_,c9,fv,jl,iv,ex,it⟩:=cm 14 _ _ J J;obtain rfl: I=jl:=by have b0:=(ca).symm.trans it;simpa using b0
  have ex: G 14=some [(eO fv 26 #[(.slice (some ⟨I,0,none⟩) bs.length bs.length)])]:=ex;obtain rfl: O=fv:=by have b0:=(c2).symm.trans iv;simpa using b0
  have C: Step w0 H L w dk ((eO I 3 (ints (List.replicate bs.length 0)).toArray)::(eO V 4 (bls (List.replicate bs.length false)).toArray)::(eO O 26 #[(.slice (some ⟨I,0,none⟩) bs.length bs.length)])::(eO Z 101 #[(.slice none 0 0)])::(eO p 103 #[(.slice c3 bs.length c4),(.slice cz bs.length d2),(iV h.u)])::bj::bv::(fl3 bw)):=by
   have b0:=C;unfold As.aents at b0;simp only [List.flatMap_cons,List.flatMap_nil,As.conE,show (As.sl [(12,14)]) 5=none from rfl,show (As.sl [(12,14)]) 11=none from rfl,show (As.sl [(12,14)]) 12=some 14 from rfl,show (As.sl [(12,14)]) 14=none from rfl,show (As.sl [(12,14)]) 13=none from rfl,ca,ev,c2,ew,ex,Option.isSome_some,Option.getD_some,cond_true,cond_false,List.cons_append,List.nil_append,List.append_nil] at b0;exact b0
  refine any1 (i:=15) j1 J J (ak (cs':= #[(.slice (some ⟨V,0,none⟩) bs.length bs.length)]) T101 C (i:=3) J q J J J J J J fun a w C q=>?_);refine any0 j1 ?_;refine aa (wp_seq (ab (lin J (cP (fs:= #[]) (cs:= #[(pB O),(pB Z)]) q (q.evs (xs:= []) J) (q.evs J) J fun a q=>?_))));refine Ls J q fun a q=>?_;refine wpList_nil (aa (wp_seq (wp_seq (ab (Lm J q fun a q=>?_)))));refine lin J (aI T37.und q J J fun a q=>?_);refine Lm J q fun a q=>?_;refine wpList_nil (aa (wp_block (a6 (fun cj a w=> ∃(k: Nat),∃(b8: List Int),∃(bk: Ent),∃(bi: List Bool),∃(bm: Ent),cj=xs.length - k/\Has [] a 122 [(0,(pB p)),(1,(.slice A xs.length c)),(5,(pB O)),(6,(pB Z)),(7,(.func (.func 69) #[] #[(pB O),(pB Z)])),(41,(.slice A xs.length c)),(42,(iV ((xs.length: Nat): Int))),(43,(iV ((k: Nat): Int)))]/\Step w0 H L w dk (bk::bm::(eO O 26 #[(.slice (some ⟨I,0,none⟩) bs.length bs.length)])::(eO Z 101 #[(.slice (some ⟨V,0,none⟩) bs.length bs.length)])::(eO p 103 #[(.slice c3 bs.length c4),(.slice cz bs.length d2),(iV h.u)])::bj::bv::(fl3 bw))/\(Row (.slice (some ⟨I,0,none⟩) bs.length bs.length) bk 3 1 bs.length (ints b8))/\(b8.length=bs.length)/\(Row (.slice (some ⟨V,0,none⟩) bs.length bs.length) bm 4 1 bs.length (bls bi))/\((b8,bi)=(xs.take k).foldl noteW (List.replicate (er bs).length 0,List.replicate (er bs).length false))/\(CB b8 k)/\(b8.length=bs.length)/\(bi.length=bs.length)/\(k<=xs.length)) _ ⟨0,(List.replicate bs.length 0),(eO I 3 (ints (List.replicate bs.length 0)).toArray),(List.replicate bs.length false),(eO V 4 (bls (List.replicate bs.length false)).toArray),rfl,q.pk J,C,ct,(by first | omega | simp),d9,(by rw [bB];rfl),(CB.zero _),j3,j3,j0⟩ ?_)));intro l2 a w ch;obtain⟨k,b8,bk,bi,bm,kw,q,C,fc,k9,fe,el,c0,cw,cx,km⟩:=ch;refine wp_seq (ab (lin J (bl (i:=((k: Nat): Int)) (j:=((xs.length: Nat): Int)) q J J J fun a q=>?_)));let f6:=(eO p 103 #[(.slice c3 bs.length c4),(.slice cz bs.length d2),(iV h.u)]);refine wpList_nil (aa (wp_seq (an (t:=44) q J (fun go q=>?_) (fun go q=>?_))))
  ·refine ap q J (wp_skip (aa (wp_seq (wp_block (wp_seq (ab ?_))))));obtain⟨bh,g5,jj,k5,k3,k7,fp,gt,hn,hv⟩:=hr.get (j:=k) j5;refine lin J (aC (b:=g5) (o:=jj) (j:=k) T37.und T35 gt q J J j0 j0 J fun a q=>?_);refine lin J (al (vs:=(wL bh)) T35 J q J (C.blkH hn) J hv J fun a q=>?_);refine lin J (aE (cs:= #[(iV 0),(iV 0),(.string (⟨#[]⟩)),(.bool false)]) T35 C q J J fun f7 a w C q=>?_);refine lin J (ak (cs':=(wA bh)) T35 C (i:=0) J q J J J J J J fun a w C q=>?_);refine wpList_nil (aa (ab (Lm J q fun a q=>?_)));refine lin J (al (vs:=(wL bh)) T35 J q J (C.blkL 0 J) J (ag J) J fun a q=>?_);have C:=C.fd [8,8,8,4,6,8,7,8] J;have ik:=c_note (x:=bh) (Inv.head [(eO O 26 #[(.slice (some ⟨I,0,none⟩) bs.length bs.length)]),bk,(eO Z 101 #[(.slice (some ⟨V,0,none⟩) bs.length bs.length)]),bm] (B:=((eO f7 35 (wA bh))::f6::bj::bv::(fl3 bw))) C.inv) fc fe j0 j0 (fun b0=>by have Y:=dE (allS_at cg fp) b0;rw [bB] at Y;exact Y) ((CB.le c0 j0: CB b8 100000000));refine lin J (br func69 J J (q.evs J) q J J (ik) ?_);rintro e w ⟨gk,gm,rfl,hd,hi,hw⟩;refine⟨_,rfl,fun a q=>?_⟩;have C:=Step.frame (Lc:= [(eO O 26 #[(.slice (some ⟨I,0,none⟩) bs.length bs.length)]),bk,(eO Z 101 #[(.slice (some ⟨V,0,none⟩) bs.length bs.length)]),bm]) (R:=((eO f7 35 (wA bh))::f6::bj::bv::(fl3 bw))) C hw;have en:=dU (b8,bi) bh;have eo:=dV (b8,bi) bh;dsimp only at en eo;refine wpList_nil (ao (aa (ab (lin J (aL (i:=((k: Nat): Int)) (j:=1) q J J J j0 fun a q=>?_)))));refine Lm J q fun a q=>?_;refine wpList_nil (aa (?_));have C:=C.fd [5,0,7,7,7,6,5,7,7] J;exact⟨xs.length - (k+1),by omega,(k+1),(noteW (b8,bi) bh).1,gk,(noteW (b8,bi) bh).2,gm,rfl,q.pk J,C,hd,j0,hi,(by rw [fold_note fp,<- el]),(c0.note (c:=(b8,bi)) bh),j0,j0,j0⟩
  ·obtain rfl: k=xs.length:=by omega
   rw [List.take_length] at el;have hq:(b8,bi)=c0S (er bs) xs:=el;refine ah q J (wp_exit (az (az (aN (aa (wp_seq ?_))))));have C:=Step.castB [bk,bm,(eO O 26 #[(.slice (some ⟨I,0,none⟩) bs.length bs.length)]),(eO Z 101 #[(.slice (some ⟨V,0,none⟩) bs.length bs.length)])] C fa;refine ab (Lm J q fun a q=>?_);refine Lm J q fun a q=>?_;have im:=fr (p:=p) C.inv.nil hr;refine lin J (aD func57 J J (q.evs J) q J (im) ?_);rintro e w ⟨jn,l6,l7,rfl,iw,ix,iy,hx⟩;refine⟨_,rfl,fun a q=>?_⟩;have C:=C.call hx;have io:=c_CollectM (C.tail [bk,bm,(eO O 26 #[(.slice (some ⟨I,0,none⟩) bs.length bs.length)]),(eO Z 101 #[(.slice (some ⟨V,0,none⟩) bs.length bs.length)])]) iy d8 iw ix;refine lin J (aD func71 J J (q.evs J) q J (io) ?_);rintro e w ⟨dl,cc,cp,aw,rfl,fb,hy⟩;refine⟨_,rfl,fun a q=>?_⟩;have C:=Step.frameR [bk,bm,(eO O 26 #[(.slice (some ⟨I,0,none⟩) bs.length bs.length)]),(eO Z 101 #[(.slice (some ⟨V,0,none⟩) bs.length bs.length)])] C hy;refine Ls J q fun a q=>?_;refine wpList_nil (aa (wp_seq (wp_seq ?_)));obtain⟨ck,d1,f5,f9,c5,c6,cq,cf,e5,e6,e8,hk,hc,cr⟩:=(d8).open_;have C:=Step.castR [bk,bm,(eO O 26 #[(.slice (some ⟨I,0,none⟩) bs.length bs.length)]),(eO Z 101 #[(.slice (some ⟨V,0,none⟩) bs.length bs.length)]),aw] cf C;have kl:(BL (er bs) xs).length<=bs.length:=by
    have b0:=fV (S:=er bs) (roots:=xs);rw [bB] at b0;exact b0
   refine ab (Lm J q fun a q=>?_);refine lin J (aI T26.und q J J fun a q=>?_);refine Lm J q fun a q=>?_;refine wpList_nil (aa (wp_block (a6 (fun cj a w=> ∃(b5: Nat),∃(a1: List Int),∃(ba: Ent),∃(a4: List Bool),∃(bc: Ent),cj=(BL (er bs) xs).length - b5/\Has [] a 122 [(0,(pB p)),(5,(pB O)),(6,(pB Z)),(7,(.func (.func 69) #[] #[(pB O),(pB Z)])),(10,(.slice cc ((BL (er bs) xs).length) cp)),(55,(.slice cc ((BL (er bs) xs).length) cp)),(56,(iV (((BL (er bs) xs).length: Nat): Int))),(57,(iV ((b5: Nat): Int)))]/\Step w0 H L w dl (ba::bc::(eO O 26 #[(.slice (some ⟨I,0,none⟩) bs.length bs.length)])::(eO Z 101 #[(.slice (some ⟨V,0,none⟩) bs.length bs.length)])::aw::(eO p 103 #[(.slice ck bs.length d1),(.slice f5 bs.length f9),(iV h.u)])::c5::c6::(fl3 cq))/\(Row (.slice (some ⟨I,0,none⟩) bs.length bs.length) ba 3 1 bs.length (ints a1))/\(a1.length=bs.length)/\(Row (.slice (some ⟨V,0,none⟩) bs.length bs.length) bc 4 1 bs.length (bls a4))/\(noteB (er bs) (a1,a4) ((blocksS (er bs) xs).drop b5)=noteB (er bs) (c0S (er bs) xs) (blocksS (er bs) xs))/\(CB a1 (xs.length+64 * b5))/\(a1.length=bs.length)/\(a4.length=bs.length)/\(b5<=(BL (er bs) xs).length)) _ ⟨0,b8,bk,bi,bm,rfl,q.pk J,C,fc,(by first | omega | simp),fe,(by rw [hq];rfl),(c0.le j0),cw,cx,j0⟩ ?_)));intro l3 a w ch;obtain⟨b5,a1,ba,a4,bc,kx,q,C,cu,ka,cv,da,c0,cw,cx,kp⟩:=ch;refine wp_seq (ab (lin J (bl (i:=((b5: Nat): Int)) (j:=(((BL (er bs) xs).length: Nat): Int)) q J J J fun a q=>?_)));let cd:=(eO p 103 #[(.slice ck bs.length d1),(.slice f5 bs.length f9),(iV h.u)]);refine wpList_nil (aa (wp_seq (an (t:=58) q J (fun gp q=>?_) (fun gp q=>?_))))
   ·refine ap q J (wp_skip (aa (wp_seq (wp_block (wp_seq (ab ?_))))));obtain⟨dm,jp,g8,iz,i4,eb, -⟩:=fb.at_ (j:=b5) j0;have gu:(cc: Option Addr)=some ⟨dm,0,none⟩:=by injection iz
    obtain⟨fw,fq⟩: ∃ x,(BL (er bs) xs)[b5]? =some x:=⟨_,List.getElem?_eq_getElem j5⟩;have eb:=eb 0 (iV fw) j0 (cy fq);refine lin J (aC (b:=dm) (o:=0) (j:=b5) T26.und T3 gu q J J j0 j0 J fun a q=>?_);refine lin J (af (v:=(iV fw)) T3 J q J (C.blkL 4 (b:=dm) (o:=.cells g8 3 (0,0)) (by rw [<- i4];rfl)) eb J fun a q=>?_);refine Ls J q fun a q=>?_;refine wpList_nil (aa (wp_seq ?_));obtain⟨F,ey,rfl,b4,a0,em⟩:=gv fq;rw [bB] at em;have e9: ∃ a5,bs[F]? =some (some a5)/\a5.2=ey:=by
     rw [dR] at a0
     cases a3: bs[F]? with
     | none=>rw [a3] at a0;cases a0
     | some o_ =>
      rw [a3] at a0
      cases o_ with
      | none=>cases a0
      | some a5=>exact ⟨a5,rfl,by simpa using a0⟩
    obtain⟨a5,c7,rfl⟩:=e9;refine ab (Lm J q fun a q=>?_);refine lin J (av q J J fun a q=>?_);refine lin J (ac (f:=0) (o2:=0) T103 T100 J J J J q J J fun a q=>?_);refine lin J (af (v:=(.slice ck bs.length d1)) T100 J q J (C.blkL 5 J) J J fun a q=>?_);refine Lm J q fun a q=>?_;obtain⟨fx,dn,jq,g9,jh,j2,i5,hz⟩:=Row.getG bN j4 e8 (j:=F) j0;have gw:(ck: Option Addr)=some ⟨dn,0,none⟩:=by injection j2
    refine lin J (aC (b:=dn) (o:=0) (j:=F) T100.und T105 gw q J J j0 j0 J fun a q=>?_);refine lin J (af (v:=(bkv fx)) T105 J q J (C.blkL 6 (b:=dn) (o:=.cells g9 105 (0,0)) (by rw [<- i5];rfl)) (hz 0 _ J) J fun a q=>?_);obtain rfl: fx=some a5:=Option.some.inj (jh.symm.trans c7);obtain⟨l8,fm,ha⟩:=cr.get c7;have fk:=cr.ok _ _ c7;have l1:=fk.words;refine lin J (dy C (a7 [ba,bc,(eO O 26 #[(.slice (some ⟨I,0,none⟩) bs.length bs.length)]),(eO Z 101 #[(.slice (some ⟨V,0,none⟩) bs.length bs.length)]),aw,cd,c5,c6] (bg fm)) ha fk q J J fun f4 g6 hg a w C q=>?_);refine lin J (aI T37.und q J J fun a q=>?_);refine Lm J q fun a q=>?_;refine wpList_nil (aa (wp_block (a6 (fun cj a w=> ∃(b9: Nat),∃(b6: List Int),∃(bo: Ent),∃(bf: List Bool),∃(bu: Ent),cj=a5.2.words.length - b9/\Has [] a 122 [(0,(pB p)),(5,(pB O)),(6,(pB Z)),(7,(.func (.func 69) #[] #[(pB O),(pB Z)])),(10,(.slice cc ((BL (er bs) xs).length) cp)),(55,(.slice cc ((BL (er bs) xs).length) cp)),(56,(iV (((BL (er bs) xs).length: Nat): Int))),(57,(iV ((b5: Nat): Int))),(68,(.slice f4 a5.2.words.length g6)),(69,(iV ((a5.2.words.length: Nat): Int))),(70,(iV ((b9: Nat): Int)))]/\Step w0 H L w dl (bo::bu::(eO O 26 #[(.slice (some ⟨I,0,none⟩) bs.length bs.length)])::(eO Z 101 #[(.slice (some ⟨V,0,none⟩) bs.length bs.length)])::aw::cd::c5::c6::(fl3 cq))/\(Row (.slice (some ⟨I,0,none⟩) bs.length bs.length) bo 3 1 bs.length (ints b6))/\(b6.length=bs.length)/\(Row (.slice (some ⟨V,0,none⟩) bs.length bs.length) bu 4 1 bs.length (bls bf))/\(noteL (er bs) (b6,bf) (a5.2.words.drop b9)=noteL (er bs) (a1,a4) a5.2.words)/\(CB b6 (xs.length+64 * b5+b9))/\(b6.length=bs.length)/\(bf.length=bs.length)/\(b9<=a5.2.words.length)) _ ⟨0,a1,ba,a4,bc,rfl,q.pk J,C,cu,(by first | omega | simp),cv,rfl,c0,cw,cx,j0⟩ ?_)));intro l4 a w ch;obtain⟨b9,b6,bo,bf,bu,ky,q,C,ff,kb,fg,db,c0,cw,cx,kn⟩:=ch;refine wp_seq (ab (lin J (bl (i:=((b9: Nat): Int)) (j:=((a5.2.words.length: Nat): Int)) q J J J fun a q=>?_)));refine wpList_nil (aa (wp_seq (an (t:=71) q J (fun gr q=>?_) (fun gr q=>?_))))
    ·refine ap q J (wp_skip (aa (wp_seq (wp_block (wp_seq (ab ?_))))));obtain⟨b2,f8,jr,k4,ft,j6,i6,i0⟩:=Row.getG Wd.len j4 hg (j:=b9) j0;have gx:(f4: Option Addr)=some ⟨f8,0,none⟩:=by injection j6
     have fj:=(bp fm);rw [i6] at fj;refine lin J (aC (b:=f8) (o:=0) (j:=b9) T37.und T35 gx q J J j0 j0 J fun a q=>?_);refine lin J (al (vs:=(wL b2)) T35 J q J (C.at_mem [bo,bu,(eO O 26 #[(.slice (some ⟨I,0,none⟩) bs.length bs.length)]),(eO Z 101 #[(.slice (some ⟨V,0,none⟩) bs.length bs.length)]),aw,cd,c5,c6] fj) J i0 J fun a q=>?_);refine lin J (aE (cs:= #[(iV 0),(iV 0),(.string (⟨#[]⟩)),(.bool false)]) T35 C q J J fun co a w C q=>?_);refine lin J (ak (cs':=(wA b2)) T35 C (i:=0) J q J J J J J J fun a w C q=>?_);refine wpList_nil (aa (wp_seq (wp_seq (ab (Lm J q fun a q=>?_)))));refine lin J (al (vs:=(wL b2)) T35 J q J (C.blkL 0 J) J (ag J) J fun a q=>?_);have ip:=eI (x:=b2) (C.tail [(eO co 35 (wA b2)),bo,bu,(eO O 26 #[(.slice (some ⟨I,0,none⟩) bs.length bs.length)]),(eO Z 101 #[(.slice (some ⟨V,0,none⟩) bs.length bs.length)]),aw]) (HP.mk' (by first | exact e5 | exact List.length_set.trans e5 |(simp only [List.length_set];done) |(simp only [List.length_set];exact e5)) (by first | exact e6 | exact List.length_set.trans e6 |(simp only [List.length_set];done) |(simp only [List.length_set];exact e6)) e8 hk hc cr);refine lin J (aD func53 J J (q.evs J) q J (ip) ?_);rintro e w ⟨rfl,ea⟩;refine⟨_,rfl,fun a q=>?_⟩;have C:=C.frameR [(eO co 35 (wA b2)),bo,bu,(eO O 26 #[(.slice (some ⟨I,0,none⟩) bs.length bs.length)]),(eO Z 101 #[(.slice (some ⟨V,0,none⟩) bs.length bs.length)]),aw] ea;refine lin J (aS q J J fun a q=>?_);refine wpList_nil (aa (au (t:=77) q J (fun e0 q=>?_) (fun e0 q=>?_)))
     ·refine ap q J (wp_seq (ab (Ls J q fun a q=>?_)));refine wpList_nil (aa (wp_ret (ai (aA (ai (ai (aA (aA (ai (ai (aA (ai (ret1 J q J ?_)))))))))))));have C:=Step.castB [(eO co 35 (wA b2)),bo,bu,(eO O 26 #[(.slice (some ⟨I,0,none⟩) bs.length bs.length)]),(eO Z 101 #[(.slice (some ⟨V,0,none⟩) bs.length bs.length)]),aw] C cf;have C:=C.fd [0,0,0,0,0,0] J;have a3: auditS (er bs) xs=213:=audit_none cg (by rw [<- da,noteB_bad b4 (by rw [d7 a0,<- db];exact noteL_bad ft (by simpa using e0))]);rw [c8] at a3;rw [a3];exact⟨_,rfl,C⟩
     ·have fo:=(show wordS (er bs) _=true by simpa using e0);refine ah q J (wp_skip (aa (ab (Lm J q fun a q=>?_))));refine lin J (al (vs:=(wL b2)) T35 J q J (C.blkL 0 J) J (ag J) J fun a q=>?_);have C:=C.fd [9,9,9,9,5,7,9,8,9] J;have iq:=c_note (x:=b2) (Inv.head [(eO O 26 #[(.slice (some ⟨I,0,none⟩) bs.length bs.length)]),bo,(eO Z 101 #[(.slice (some ⟨V,0,none⟩) bs.length bs.length)]),bu] (B:=((eO co 35 (wA b2))::aw::cd::c5::c6::(fl3 cq))) C.inv) ff fg j0 j0 (fun b0=>by have Y:=dE fo b0;rw [bB] at Y;exact Y) ((CB.le c0 j0: CB b6 100000000));refine lin J (br func69 J J (q.evs J) q J J (iq) ?_);rintro e w ⟨gl,gn,rfl,hh,hj,i1⟩;refine⟨_,rfl,fun a q=>?_⟩;have C:=Step.frame (Lc:= [(eO O 26 #[(.slice (some ⟨I,0,none⟩) bs.length bs.length)]),bo,(eO Z 101 #[(.slice (some ⟨V,0,none⟩) bs.length bs.length)]),bu]) (R:=((eO co 35 (wA b2))::aw::cd::c5::c6::(fl3 cq))) C i1;have en:=dU (b6,bf) b2;have eo:=dV (b6,bf) b2;dsimp only at en eo;refine wpList_nil (ao (aa (ab (lin J (aL (i:=((b9: Nat): Int)) (j:=1) q J J J j0 fun a q=>?_)))));refine Lm J q fun a q=>?_;refine wpList_nil (aa (?_));have C:=C.fd [5,0,8,8,8,8,7,6,8,8] J;exact⟨a5.2.words.length - (b9+1),by omega,(b9+1),(noteW (b6,bf) b2).1,gl,(noteW (b6,bf) b2).2,gn,rfl,q.pk J,C,hh,j0,hj,(by rw [<- db,noteL_step ft fo]),((c0.note (c:=(b6,bf)) b2).le j0),j0,j0,j0⟩
    ·refine ah q J (wp_exit (az (az (aN (ao (aa (ab (lin J (aL (i:=((b5: Nat): Int)) (j:=1) q J J J j0 fun a q=>?_)))))))));refine Lm J q fun a q=>?_;refine wpList_nil (aa (?_));have i3: noteL (er bs) (b6,bf) (a5.2.words.drop b9)=some (b6,bf):=by rw [List.drop_of_length_le j0];rfl
     rw [i3] at db;exact⟨(BL (er bs) xs).length - (b5+1),by omega,(b5+1),b6,bo,bf,bu,rfl,q.pk J,C,ff,j0,fg,(by rw [<- da,noteB_step b4 (by rw [d7 a0];exact db.symm)]),(c0.le j0),cw,cx,j0⟩
   ·have hp:(blocksS (er bs) xs).length=(BL (er bs) xs).length:=by unfold BL;rw [List.length_map]
    have cn: noteB (er bs) (c0S (er bs) xs) (blocksS (er bs) xs)=some (a1,a4):=by rw [<- da,List.drop_of_length_le j0];rfl
    refine ah q J (wp_exit (az (az (aN (aa (wp_seq (wp_seq (ab (Lm J q fun a q=>?_)))))))));refine lin J (aI T26.und q J J fun a q=>?_);refine Lm J q fun a q=>?_;refine wpList_nil (aa (wp_block (a6 (fun cj a w=> ∃(T: Nat),cj=(BL (er bs) xs).length - T/\Has [] a 122 [(0,(pB p)),(5,(pB O)),(6,(pB Z)),(83,(.slice cc ((BL (er bs) xs).length) cp)),(84,(iV (((BL (er bs) xs).length: Nat): Int))),(85,(iV ((T: Nat): Int)))]/\Step w0 H L w dl (ba::bc::(eO O 26 #[(.slice (some ⟨I,0,none⟩) bs.length bs.length)])::(eO Z 101 #[(.slice (some ⟨V,0,none⟩) bs.length bs.length)])::aw::cd::c5::c6::(fl3 cq))/\(T<=(BL (er bs) xs).length)/\(∀(i j: Nat),i < T->(blocksS (er bs) xs)[i]? =some j->badAt (er bs) (a1,a4) j=false)) _ ⟨0,rfl,q.pk J,C,j0,(fun i j h _=>by omega)⟩ ?_)));intro l5 a w ch;obtain⟨T,kz,q,C,ko,c1⟩:=ch;refine wp_seq (ab (lin J (bl (i:=((T: Nat): Int)) (j:=(((BL (er bs) xs).length: Nat): Int)) q J J J fun a q=>?_)));refine wpList_nil (aa (wp_seq (an (t:=86) q J (fun gs q=>?_) (fun gs q=>?_))))
    ·refine ap q J (wp_skip (aa (wp_seq (wp_block (wp_seq (ab ?_))))));obtain⟨dp,jt,ga,j7,i7,ec, -⟩:=fb.at_ (j:=T) j0;have gy:(cc: Option Addr)=some ⟨dp,0,none⟩:=by injection j7
     obtain⟨fy,fu⟩: ∃ x,(BL (er bs) xs)[T]? =some x:=⟨_,List.getElem?_eq_getElem j5⟩;have ec:=ec 0 (iV fy) j0 (cy fu);refine lin J (aC (b:=dp) (o:=0) (j:=T) T26.und T3 gy q J J j0 j0 J fun a q=>?_);refine lin J (af (v:=(iV fy)) T3 J q J (C.blkL 4 (b:=dp) (o:=.cells ga 3 (0,0)) (by rw [<- i7];rfl)) ec J fun a q=>?_);refine Ls J q fun a q=>?_;refine wpList_nil (aa (wp_seq (ab (Ls J q fun a q=>?_))));refine wpList_nil (aa (wp_seq (wp_seq ?_)));obtain⟨F,ey,rfl,b4,a0,em⟩:=gv fu;rw [bB] at em;have e9: ∃ a5,bs[F]? =some (some a5)/\a5.2=ey:=by
      rw [dR] at a0
      cases a3: bs[F]? with
      | none=>rw [a3] at a0;cases a0
      | some o_ =>
       rw [a3] at a0
       cases o_ with
       | none=>cases a0
       | some a5=>exact ⟨a5,rfl,by simpa using a0⟩
     obtain⟨a5,c7,rfl⟩:=e9;refine ab (Lm J q fun a q=>?_);refine lin J (av q J J fun a q=>?_);refine lin J (ac (f:=0) (o2:=0) T103 T100 J J J J q J J fun a q=>?_);refine lin J (af (v:=(.slice ck bs.length d1)) T100 J q J (C.blkL 5 J) J J fun a q=>?_);refine Lm J q fun a q=>?_;obtain⟨fz,dq,ju,gb,dc,j8,i8,i2⟩:=Row.getG bN j4 e8 (j:=F) j0;have gz:(ck: Option Addr)=some ⟨dq,0,none⟩:=by injection j8
     refine lin J (aC (b:=dq) (o:=0) (j:=F) T100.und T105 gz q J J j0 j0 J fun a q=>?_);refine lin J (af (v:=(bkv fz)) T105 J q J (C.blkL 6 (b:=dq) (o:=.cells gb 105 (0,0)) (by rw [<- i8];rfl)) (i2 0 _ J) J fun a q=>?_)
     rcases fz with _ |⟨dj,⟨bz,fh⟩ |⟨ji,ez⟩ |⟨ez⟩⟩
     ·exact absurd (Option.some.inj (dc.symm.trans c7)) j3
     ·have ci:=dc;obtain rfl: a5=(dj,PB.var bz fh):=Option.some.inj (Option.some.inj (c7.symm.trans ci));refine lin J (bq T114.und q J J fun a q=>?_);refine Lm J q fun a q=>?_;refine lin J (ad (v:=(pB dj)) q J J J fun a q=>?_);refine lin J (ad (v:=(.bool true)) q J J J fun a q=>?_);refine Ls J q fun a q=>?_;refine Ls J q fun a q=>?_;refine wpList_nil (aa (wp_seq (ab (Lm J q fun a q=>?_))));refine Lm J q fun a q=>?_;refine ae J q J J J (aj q J J fun a q=>?_);refine ae J q J J J (av q J J fun a q=>?_);obtain⟨l9,ep,hb⟩:=cr.get ci;obtain⟨g4,g7,jm,jo,iu,kf,kh⟩:=hb;have fi:=bg ep;have ku:=bp ep;have kv:=bt ep;rw [iu] at fi;have fl:=cr.ok _ _ ci;have kq: bz.length<=1:=fl.1;have kr: fh.length<=4000:=fl.2;refine ae J q J J J (ac (f:=0) (o2:=0) T116 T37 J J J J q J J fun a q=>?_);refine ae J q J J J (af (v:=(.slice g4 bz.length g7)) T37 J q J (C.at_mem [ba,bc,(eO O 26 #[(.slice (some ⟨I,0,none⟩) bs.length bs.length)]),(eO Z 101 #[(.slice (some ⟨V,0,none⟩) bs.length bs.length)]),aw,cd,c5,c6] fi) J J fun a q=>?_);refine ae J q J J J (aI T37.und q J J fun a q=>?_);refine ae J q J J J (bn (i:=((bz.length: Nat): Int)) (j:=0) q J J J fun a q=>?_);refine lin J (aq q J J J fun a q=>?_);refine wpList_nil (aa (an (t:=108) q J (fun ce q=>?_) (fun ce q=>?_)))
      ·refine ap q J (ab (Ls J q fun a q=>?_));refine wpList_nil (aa (wp_seq (ab (lin J (af (v:=(.slice (some ⟨V,0,none⟩) bs.length bs.length)) T101 J q J (C.blkL 3 J) J J fun a q=>?_)))));refine Lm J q fun a q=>?_;obtain⟨dr,jv,gc,j9,i9,ed, -⟩:=cv.at_ (j:=F) j0;have h0:((some ⟨V,0,none⟩): Option Addr)=some ⟨dr,0,none⟩:=by injection j9
       obtain⟨g0,df⟩: ∃ x,a4[F]? =some x:=⟨_,List.getElem?_eq_getElem j5⟩;have ed:=ed 0 (.bool g0) j0 (bV df);refine lin J (aC (b:=dr) (o:=0) (j:=F) T101.und T4 h0 q J J j0 j0 J fun a q=>?_);refine lin J (af (v:=(.bool g0)) T4 J q J (C.blkL 1 (b:=dr) (o:=.cells gc 4 (0,0)) (by rw [<- i9];rfl)) ed J fun a q=>?_);refine Lm J q fun a q=>?_;refine au (t:=113) q J (fun d3 q=>?_) (fun d3 q=>?_)
       ·refine ae J q J J J (af (v:=(.slice (some ⟨I,0,none⟩) bs.length bs.length)) T26 J q J (C.blkL 2 J) J J fun a q=>?_);refine ae J q J J J (aj q J J fun a q=>?_);obtain⟨ds,jw,gd,ja,ia,ee, -⟩:=cu.at_ (j:=F) j0;have h3:((some ⟨I,0,none⟩): Option Addr)=some ⟨ds,0,none⟩:=by injection ja
        obtain⟨f0,eq⟩: ∃ x,a1[F]? =some x:=⟨_,List.getElem?_eq_getElem j5⟩;have ee:=ee 0 (iV f0) j0 (cy eq);refine ae J q J J J (aC (b:=ds) (o:=0) (j:=F) T26.und T3 h3 q J J j0 j0 J fun a q=>?_);refine ae J q J J J (af (v:=(iV f0)) T3 J q J (C.blkL 0 (b:=ds) (o:=.cells gd 3 (0,0)) (by rw [<- ia];rfl)) ee J fun a q=>?_);refine ae J q J J J (aj q J J fun a q=>?_);refine ae J q J J J (cT (i:=f0) (j:=2) q J J J fun a q=>?_);refine lin J (aq q J J J fun a q=>?_);refine wpList_nil (aa (an (t:=120) q J (fun e1 q=>?_) (fun e1 q=>?_)))
        ·refine ap q J (wp_seq (ab (Ls J q fun a q=>?_)));refine wpList_nil (aa (wp_ret (aA (ai (ai (aA (ai (ret1 J q J ?_))))))));have ar: mostS (er bs) F=2:=by
          unfold mostS;rw [List.getD_eq_getElem?_getD,a0]
          cases bz with
          | nil=>rfl
          | cons y_ ys_=>(simp only [List.length_cons] at ce;omega)
         have a9: badAt (er bs) (a1,a4) F=true:=by
          unfold badAt;simp only [ar,List.getD_eq_getElem?_getD,df,eq,Option.getD_some];rw [d3,decide_eq_true e1];rfl
         have C:=Step.castB [ba,bc,(eO O 26 #[(.slice (some ⟨I,0,none⟩) bs.length bs.length)]),(eO Z 101 #[(.slice (some ⟨V,0,none⟩) bs.length bs.length)]),aw] C cf;have C:=C.fd [0,0,0,0,0] J;have a3: auditS (er bs) xs=213:=dH cg cn b4 a9;rw [c8] at a3;rw [a3];exact⟨_,rfl,C⟩
        ·refine ah q J (wp_skip (ao (aa (ab (lin J (aL (i:=((T: Nat): Int)) (j:=1) q J J J j0 fun a q=>?_))))));refine Lm J q fun a q=>?_;refine wpList_nil (aa (?_));have ar: mostS (er bs) F=2:=by
          unfold mostS;rw [List.getD_eq_getElem?_getD,a0]
          cases bz with
          | nil=>rfl
          | cons y_ ys_=>(simp only [List.length_cons] at ce;omega)
         have a9: badAt (er bs) (a1,a4) F=false:=by
          unfold badAt;simp only [ar,List.getD_eq_getElem?_getD,df,eq,Option.getD_some];rw [d3,decide_eq_false e1];rfl
         exact⟨(BL (er bs) xs).length - (T+1),by omega,(T+1),rfl,q.pk J,C,j0,(fun i j h Y=>by
           by_cases b3: i=T
           ·subst b3;rw [b4] at Y;obtain rfl:=Option.some.inj Y;exact a9
           ·exact c1 i j j0 Y)⟩
       ·refine Lf J q J J fun a q=>?_;refine Lf J q J J fun a q=>?_;refine Lf J q J J fun a q=>?_;refine Lf J q J J fun a q=>?_;refine Lf J q J J fun a q=>?_;refine Lf J q J J fun a q=>?_;refine lin J (am q J J J fun a q=>?_);refine wpList_nil (aa (ah q J (wp_skip (ao (aa (ab (lin J (aL (i:=((T: Nat): Int)) (j:=1) q J J J j0 fun a q=>?_))))))));refine Lm J q fun a q=>?_;refine wpList_nil (aa (?_));have ar: mostS (er bs) F=2:=by
         unfold mostS;rw [List.getD_eq_getElem?_getD,a0]
         cases bz with
         | nil=>rfl
         | cons y_ ys_=>(simp only [List.length_cons] at ce;omega)
        have a9: badAt (er bs) (a1,a4) F=false:=by
         unfold badAt;simp only [ar,List.getD_eq_getElem?_getD,df,Option.getD_some];rw [d3];rfl
        exact⟨(BL (er bs) xs).length - (T+1),by omega,(T+1),rfl,q.pk J,C,j0,(fun i j h Y=>by
          by_cases b3: i=T
          ·subst b3;rw [b4] at Y;obtain rfl:=Option.some.inj Y;exact a9
          ·exact c1 i j j0 Y)⟩
      ·refine ah q J (wp_skip (aa (wp_seq (ab (lin J (af (v:=(.slice (some ⟨V,0,none⟩) bs.length bs.length)) T101 J q J (C.blkL 3 J) J J fun a q=>?_))))));refine Lm J q fun a q=>?_;obtain⟨dt,jx,ge,jb,ib,ef, -⟩:=cv.at_ (j:=F) j0;have h4:((some ⟨V,0,none⟩): Option Addr)=some ⟨dt,0,none⟩:=by injection jb
       obtain⟨g1,dg⟩: ∃ x,a4[F]? =some x:=⟨_,List.getElem?_eq_getElem j5⟩;have ef:=ef 0 (.bool g1) j0 (bV dg);refine lin J (aC (b:=dt) (o:=0) (j:=F) T101.und T4 h4 q J J j0 j0 J fun a q=>?_);refine lin J (af (v:=(.bool g1)) T4 J q J (C.blkL 1 (b:=dt) (o:=.cells ge 4 (0,0)) (by rw [<- ib];rfl)) ef J fun a q=>?_);refine Lm J q fun a q=>?_;refine au (t:=113) q J (fun d4 q=>?_) (fun d4 q=>?_)
       ·refine ae J q J J J (af (v:=(.slice (some ⟨I,0,none⟩) bs.length bs.length)) T26 J q J (C.blkL 2 J) J J fun a q=>?_);refine ae J q J J J (aj q J J fun a q=>?_);obtain⟨du,jy,gf,jc,ic,eg, -⟩:=cu.at_ (j:=F) j0;have h5:((some ⟨I,0,none⟩): Option Addr)=some ⟨du,0,none⟩:=by injection jc
        obtain⟨f1,es⟩: ∃ x,a1[F]? =some x:=⟨_,List.getElem?_eq_getElem j5⟩;have eg:=eg 0 (iV f1) j0 (cy es);refine ae J q J J J (aC (b:=du) (o:=0) (j:=F) T26.und T3 h5 q J J j0 j0 J fun a q=>?_);refine ae J q J J J (af (v:=(iV f1)) T3 J q J (C.blkL 0 (b:=du) (o:=.cells gf 3 (0,0)) (by rw [<- ic];rfl)) eg J fun a q=>?_);refine ae J q J J J (aj q J J fun a q=>?_);refine ae J q J J J (cT (i:=f1) (j:=1) q J J J fun a q=>?_);refine lin J (aq q J J J fun a q=>?_);refine wpList_nil (aa (an (t:=120) q J (fun e2 q=>?_) (fun e2 q=>?_)))
        ·refine ap q J (wp_seq (ab (Ls J q fun a q=>?_)));refine wpList_nil (aa (wp_ret (aA (ai (ai (aA (ai (ret1 J q J ?_))))))));have ar: mostS (er bs) F=1:=by
          unfold mostS;rw [List.getD_eq_getElem?_getD,a0]
          cases bz with
          | nil=>exact absurd J ce
          | cons y_ ys_=>rfl
         have a9: badAt (er bs) (a1,a4) F=true:=by
          unfold badAt;simp only [ar,List.getD_eq_getElem?_getD,dg,es,Option.getD_some];rw [d4,decide_eq_true e2];rfl
         have C:=Step.castB [ba,bc,(eO O 26 #[(.slice (some ⟨I,0,none⟩) bs.length bs.length)]),(eO Z 101 #[(.slice (some ⟨V,0,none⟩) bs.length bs.length)]),aw] C cf;have C:=C.fd [0,0,0,0,0] J;have a3: auditS (er bs) xs=213:=dH cg cn b4 a9;rw [c8] at a3;rw [a3];exact⟨_,rfl,C⟩
        ·refine ah q J (wp_skip (ao (aa (ab (lin J (aL (i:=((T: Nat): Int)) (j:=1) q J J J j0 fun a q=>?_))))));refine Lm J q fun a q=>?_;refine wpList_nil (aa (?_));have ar: mostS (er bs) F=1:=by
          unfold mostS;rw [List.getD_eq_getElem?_getD,a0]
          cases bz with
          | nil=>exact absurd J ce
          | cons y_ ys_=>rfl
         have a9: badAt (er bs) (a1,a4) F=false:=by
          unfold badAt;simp only [ar,List.getD_eq_getElem?_getD,dg,es,Option.getD_some];rw [d4,decide_eq_false e2];rfl
         exact⟨(BL (er bs) xs).length - (T+1),by omega,(T+1),rfl,q.pk J,C,j0,(fun i j h Y=>by
           by_cases b3: i=T
           ·subst b3;rw [b4] at Y;obtain rfl:=Option.some.inj Y;exact a9
           ·exact c1 i j j0 Y)⟩
       ·refine Lf J q J J fun a q=>?_;refine Lf J q J J fun a q=>?_;refine Lf J q J J fun a q=>?_;refine Lf J q J J fun a q=>?_;refine Lf J q J J fun a q=>?_;refine Lf J q J J fun a q=>?_;refine lin J (am q J J J fun a q=>?_);refine wpList_nil (aa (ah q J (wp_skip (ao (aa (ab (lin J (aL (i:=((T: Nat): Int)) (j:=1) q J J J j0 fun a q=>?_))))))));refine Lm J q fun a q=>?_;refine wpList_nil (aa (?_));have ar: mostS (er bs) F=1:=by
         unfold mostS;rw [List.getD_eq_getElem?_getD,a0]
         cases bz with
         | nil=>exact absurd J ce
         | cons y_ ys_=>rfl
        have a9: badAt (er bs) (a1,a4) F=false:=by
         unfold badAt;simp only [ar,List.getD_eq_getElem?_getD,dg,Option.getD_some];rw [d4];rfl
        exact⟨(BL (er bs) xs).length - (T+1),by omega,(T+1),rfl,q.pk J,C,j0,(fun i j h Y=>by
          by_cases b3: i=T
          ·subst b3;rw [b4] at Y;obtain rfl:=Option.some.inj Y;exact a9
          ·exact c1 i j j0 Y)⟩
     ·have ci:=dc;obtain rfl: a5=(dj,PB.fn ji ez):=Option.some.inj (Option.some.inj (c7.symm.trans ci));refine lin J (aP T114 q J J J fun a q=>?_);refine Lm J q fun a q=>?_;refine lin J (ad (v:=(.pointer none)) q J J J fun a q=>?_);refine lin J (ad (v:=(.bool false)) q J J J fun a q=>?_);refine Ls J q fun a q=>?_;refine Ls J q fun a q=>?_;refine wpList_nil (aa (wp_seq (ab (Lm J q fun a q=>?_))));refine Lm J q fun a q=>?_;refine Lf J q J J fun a q=>?_;refine Lf J q J J fun a q=>?_;refine Lf J q J J fun a q=>?_;refine Lf J q J J fun a q=>?_;refine Lf J q J J fun a q=>?_;refine Lf J q J J fun a q=>?_;refine lin J (am q J J J fun a q=>?_);refine wpList_nil (aa (ah q J (wp_skip (aa (wp_seq (ab (lin J (af (v:=(.slice (some ⟨V,0,none⟩) bs.length bs.length)) T101 J q J (C.blkL 3 J) J J fun a q=>?_))))))));refine Lm J q fun a q=>?_;obtain⟨dv,jz,gg,jd,ie,eh, -⟩:=cv.at_ (j:=F) j0;have h6:((some ⟨V,0,none⟩): Option Addr)=some ⟨dv,0,none⟩:=by injection jd
      obtain⟨g2,dh⟩: ∃ x,a4[F]? =some x:=⟨_,List.getElem?_eq_getElem j5⟩;have eh:=eh 0 (.bool g2) j0 (bV dh);refine lin J (aC (b:=dv) (o:=0) (j:=F) T101.und T4 h6 q J J j0 j0 J fun a q=>?_);refine lin J (af (v:=(.bool g2)) T4 J q J (C.blkL 1 (b:=dv) (o:=.cells gg 4 (0,0)) (by rw [<- ie];rfl)) eh J fun a q=>?_);refine Lm J q fun a q=>?_;refine au (t:=113) q J (fun d5 q=>?_) (fun d5 q=>?_)
      ·refine ae J q J J J (af (v:=(.slice (some ⟨I,0,none⟩) bs.length bs.length)) T26 J q J (C.blkL 2 J) J J fun a q=>?_);refine ae J q J J J (aj q J J fun a q=>?_);obtain⟨dw,k0,gh,je,ig,ei, -⟩:=cu.at_ (j:=F) j0;have h7:((some ⟨I,0,none⟩): Option Addr)=some ⟨dw,0,none⟩:=by injection je
       obtain⟨f2,et⟩: ∃ x,a1[F]? =some x:=⟨_,List.getElem?_eq_getElem j5⟩;have ei:=ei 0 (iV f2) j0 (cy et);refine ae J q J J J (aC (b:=dw) (o:=0) (j:=F) T26.und T3 h7 q J J j0 j0 J fun a q=>?_);refine ae J q J J J (af (v:=(iV f2)) T3 J q J (C.blkL 0 (b:=dw) (o:=.cells gh 3 (0,0)) (by rw [<- ig];rfl)) ei J fun a q=>?_);refine ae J q J J J (aj q J J fun a q=>?_);refine ae J q J J J (cT (i:=f2) (j:=1) q J J J fun a q=>?_);refine lin J (aq q J J J fun a q=>?_);refine wpList_nil (aa (an (t:=120) q J (fun e3 q=>?_) (fun e3 q=>?_)))
       ·refine ap q J (wp_seq (ab (Ls J q fun a q=>?_)));refine wpList_nil (aa (wp_ret (aA (ai (ai (aA (ai (ret1 J q J ?_))))))));have ar: mostS (er bs) F=1:=by
         unfold mostS;rw [List.getD_eq_getElem?_getD,a0];rfl
        have a9: badAt (er bs) (a1,a4) F=true:=by
         unfold badAt;simp only [ar,List.getD_eq_getElem?_getD,dh,et,Option.getD_some];rw [d5,decide_eq_true e3];rfl
        have C:=Step.castB [ba,bc,(eO O 26 #[(.slice (some ⟨I,0,none⟩) bs.length bs.length)]),(eO Z 101 #[(.slice (some ⟨V,0,none⟩) bs.length bs.length)]),aw] C cf;have C:=C.fd [0,0,0,0,0] J;have a3: auditS (er bs) xs=213:=dH cg cn b4 a9;rw [c8] at a3;rw [a3];exact⟨_,rfl,C⟩
       ·refine ah q J (wp_skip (ao (aa (ab (lin J (aL (i:=((T: Nat): Int)) (j:=1) q J J J j0 fun a q=>?_))))));refine Lm J q fun a q=>?_;refine wpList_nil (aa (?_));have ar: mostS (er bs) F=1:=by
         unfold mostS;rw [List.getD_eq_getElem?_getD,a0];rfl
        have a9: badAt (er bs) (a1,a4) F=false:=by
         unfold badAt;simp only [ar,List.getD_eq_getElem?_getD,dh,et,Option.getD_some];rw [d5,decide_eq_false e3];rfl
        exact⟨(BL (er bs) xs).length - (T+1),by omega,(T+1),rfl,q.pk J,C,j0,(fun i j h Y=>by
          by_cases b3: i=T
          ·subst b3;rw [b4] at Y;obtain rfl:=Option.some.inj Y;exact a9
          ·exact c1 i j j0 Y)⟩
      ·refine Lf J q J J fun a q=>?_;refine Lf J q J J fun a q=>?_;refine Lf J q J J fun a q=>?_;refine Lf J q J J fun a q=>?_;refine Lf J q J J fun a q=>?_;refine Lf J q J J fun a q=>?_;refine lin J (am q J J J fun a q=>?_);refine wpList_nil (aa (ah q J (wp_skip (ao (aa (ab (lin J (aL (i:=((T: Nat): Int)) (j:=1) q J J J j0 fun a q=>?_))))))));refine Lm J q fun a q=>?_;refine wpList_nil (aa (?_));have ar: mostS (er bs) F=1:=by
        unfold mostS;rw [List.getD_eq_getElem?_getD,a0];rfl
       have a9: badAt (er bs) (a1,a4) F=false:=by
        unfold badAt;simp only [ar,List.getD_eq_getElem?_getD,dh,Option.getD_some];rw [d5];rfl
       exact⟨(BL (er bs) xs).length - (T+1),by omega,(T+1),rfl,q.pk J,C,j0,(fun i j h Y=>by
         by_cases b3: i=T
         ·subst b3;rw [b4] at Y;obtain rfl:=Option.some.inj Y;exact a9
         ·exact c1 i j j0 Y)⟩
     ·have ci:=dc;obtain rfl: a5=(dj,PB.vec ez):=Option.some.inj (Option.some.inj (c7.symm.trans ci));refine lin J (aP T114 q J J J fun a q=>?_);refine Lm J q fun a q=>?_;refine lin J (ad (v:=(.pointer none)) q J J J fun a q=>?_);refine lin J (ad (v:=(.bool false)) q J J J fun a q=>?_);refine Ls J q fun a q=>?_;refine Ls J q fun a q=>?_;refine wpList_nil (aa (wp_seq (ab (Lm J q fun a q=>?_))));refine Lm J q fun a q=>?_;refine Lf J q J J fun a q=>?_;refine Lf J q J J fun a q=>?_;refine Lf J q J J fun a q=>?_;refine Lf J q J J fun a q=>?_;refine Lf J q J J fun a q=>?_;refine Lf J q J J fun a q=>?_;refine lin J (am q J J J fun a q=>?_);refine wpList_nil (aa (ah q J (wp_skip (aa (wp_seq (ab (lin J (af (v:=(.slice (some ⟨V,0,none⟩) bs.length bs.length)) T101 J q J (C.blkL 3 J) J J fun a q=>?_))))))));refine Lm J q fun a q=>?_;obtain⟨dx,k1,gi,jf,ih,ej, -⟩:=cv.at_ (j:=F) j0;have h8:((some ⟨V,0,none⟩): Option Addr)=some ⟨dx,0,none⟩:=by injection jf
      obtain⟨g3,di⟩: ∃ x,a4[F]? =some x:=⟨_,List.getElem?_eq_getElem j5⟩;have ej:=ej 0 (.bool g3) j0 (bV di);refine lin J (aC (b:=dx) (o:=0) (j:=F) T101.und T4 h8 q J J j0 j0 J fun a q=>?_);refine lin J (af (v:=(.bool g3)) T4 J q J (C.blkL 1 (b:=dx) (o:=.cells gi 4 (0,0)) (by rw [<- ih];rfl)) ej J fun a q=>?_);refine Lm J q fun a q=>?_;refine au (t:=113) q J (fun d6 q=>?_) (fun d6 q=>?_)
      ·refine ae J q J J J (af (v:=(.slice (some ⟨I,0,none⟩) bs.length bs.length)) T26 J q J (C.blkL 2 J) J J fun a q=>?_);refine ae J q J J J (aj q J J fun a q=>?_);obtain⟨dz,k2,gj,jg,ii,ek, -⟩:=cu.at_ (j:=F) j0;have h9:((some ⟨I,0,none⟩): Option Addr)=some ⟨dz,0,none⟩:=by injection jg
       obtain⟨f3,eu⟩: ∃ x,a1[F]? =some x:=⟨_,List.getElem?_eq_getElem j5⟩;have ek:=ek 0 (iV f3) j0 (cy eu);refine ae J q J J J (aC (b:=dz) (o:=0) (j:=F) T26.und T3 h9 q J J j0 j0 J fun a q=>?_);refine ae J q J J J (af (v:=(iV f3)) T3 J q J (C.blkL 0 (b:=dz) (o:=.cells gj 3 (0,0)) (by rw [<- ii];rfl)) ek J fun a q=>?_);refine ae J q J J J (aj q J J fun a q=>?_);refine ae J q J J J (cT (i:=f3) (j:=1) q J J J fun a q=>?_);refine lin J (aq q J J J fun a q=>?_);refine wpList_nil (aa (an (t:=120) q J (fun e4 q=>?_) (fun e4 q=>?_)))
       ·refine ap q J (wp_seq (ab (Ls J q fun a q=>?_)));refine wpList_nil (aa (wp_ret (aA (ai (ai (aA (ai (ret1 J q J ?_))))))));have ar: mostS (er bs) F=1:=by
         unfold mostS;rw [List.getD_eq_getElem?_getD,a0];rfl
        have a9: badAt (er bs) (a1,a4) F=true:=by
         unfold badAt;simp only [ar,List.getD_eq_getElem?_getD,di,eu,Option.getD_some];rw [d6,decide_eq_true e4];rfl
        have C:=Step.castB [ba,bc,(eO O 26 #[(.slice (some ⟨I,0,none⟩) bs.length bs.length)]),(eO Z 101 #[(.slice (some ⟨V,0,none⟩) bs.length bs.length)]),aw] C cf;have C:=C.fd [0,0,0,0,0] J;have a3: auditS (er bs) xs=213:=dH cg cn b4 a9;rw [c8] at a3;rw [a3];exact⟨_,rfl,C⟩
       ·refine ah q J (wp_skip (ao (aa (ab (lin J (aL (i:=((T: Nat): Int)) (j:=1) q J J J j0 fun a q=>?_))))));refine Lm J q fun a q=>?_;refine wpList_nil (aa (?_));have ar: mostS (er bs) F=1:=by
         unfold mostS;rw [List.getD_eq_getElem?_getD,a0];rfl
        have a9: badAt (er bs) (a1,a4) F=false:=by
         unfold badAt;simp only [ar,List.getD_eq_getElem?_getD,di,eu,Option.getD_some];rw [d6,decide_eq_false e4];rfl
        exact⟨(BL (er bs) xs).length - (T+1),by omega,(T+1),rfl,q.pk J,C,j0,(fun i j h Y=>by
          by_cases b3: i=T
          ·subst b3;rw [b4] at Y;obtain rfl:=Option.some.inj Y;exact a9
          ·exact c1 i j j0 Y)⟩
      ·refine Lf J q J J fun a q=>?_;refine Lf J q J J fun a q=>?_;refine Lf J q J J fun a q=>?_;refine Lf J q J J fun a q=>?_;refine Lf J q J J fun a q=>?_;refine Lf J q J J fun a q=>?_;refine lin J (am q J J J fun a q=>?_);refine wpList_nil (aa (ah q J (wp_skip (ao (aa (ab (lin J (aL (i:=((T: Nat): Int)) (j:=1) q J J J j0 fun a q=>?_))))))));refine Lm J q fun a q=>?_;refine wpList_nil (aa (?_));have ar: mostS (er bs) F=1:=by
        unfold mostS;rw [List.getD_eq_getElem?_getD,a0];rfl
       have a9: badAt (er bs) (a1,a4) F=false:=by
        unfold badAt;simp only [ar,List.getD_eq_getElem?_getD,di,Option.getD_some];rw [d6];rfl
       exact⟨(BL (er bs) xs).length - (T+1),by omega,(T+1),rfl,q.pk J,C,j0,(fun i j h Y=>by
         by_cases b3: i=T
         ·subst b3;rw [b4] at Y;obtain rfl:=Option.some.inj Y;exact a9
         ·exact c1 i j j0 Y)⟩
    ·have hp:(blocksS (er bs) xs).length=(BL (er bs) xs).length:=by unfold BL;rw [List.length_map]
     have cn: noteB (er bs) (c0S (er bs) xs) (blocksS (er bs) xs)=some (a1,a4):=by rw [<- da,List.drop_of_length_le j0];rfl
     refine ah q J (wp_exit (az (az (aN (aa (wp_seq (ab (Ls J q fun a q=>?_))))))));refine wpList_nil (aa (wp_ret (ret1 J q J ?_)));have C:=Step.castB [ba,bc,(eO O 26 #[(.slice (some ⟨I,0,none⟩) bs.length bs.length)]),(eO Z 101 #[(.slice (some ⟨V,0,none⟩) bs.length bs.length)]),aw] C cf;have C:=C.fd [0,0,0,0,0] J;have a3: auditS (er bs) xs=0:=audit_ok cg cn fun i j b0=>c1 i j (by have Y:=(List.getElem?_eq_some_iff.1 b0).1;omega) b0;rw [c8] at a3;rw [a3];exact⟨_,rfl,C⟩
end Go.Vk.Tryz
namespace Go.Vk.Tryz
open Go.RowKit
theorem newR_ok {w w': World} {H: PHeap} {n: Int} {e: Ending} (h: NewR w H n e w') (hn: 16<=n/\n<=65536): ∃ p L',e=.returned (.tuple #[.pointer (some ⟨p,0,none⟩),.int .i64 0])/\HK p (HS.new n.toNat) L'/\Step w H [] w' H L':=by
 rcases h with ⟨_,_,h⟩ |⟨h,_⟩
 ·exact h
 ·exact absurd hn h
abbrev s0: HS:=(HS.new (Int.toNat 16))
theorem oks0: s0.Ok:=HS.Ok.new j4
abbrev s1: HS:=(s0.fun_ (⟨#[102]⟩) ([(Wd.mk 1 1 (⟨#[]⟩) false),(Wd.mk 2 0 (⟨#[97]⟩) false)]: List Wd)).1
theorem oks1: s1.Ok:=HS.Ok.fun_ oks0 _ _
abbrev s2: HS:=(HS.var s1).1
theorem oks2: s2.Ok:=HS.Ok.var oks1
abbrev s3: HS:=(s2.vec ([(Wd.mk 4 3 ⟨#[]⟩ true)]: List Wd)).1
theorem oks3: s3.Ok:=HS.Ok.vec oks2 _
abbrev s4: HS:=(s3.hook (Wd.mk 4 3 ⟨#[]⟩ true) 7).1
theorem oks4: s4.Ok:=HS.Ok.hook oks3 _ _
abbrev s5: HS:=(s4.bind (Wd.mk 4 3 ⟨#[]⟩ true) (Wd.mk 5 0 ⟨#[]⟩ true)).1
theorem oks5: s5.Ok:=HS.Ok.bind oks4 _ _
abbrev s6: HS:=(s5.free (Wd.mk 5 0 ⟨#[]⟩ true)).1
theorem oks6: s6.Ok:=HS.Ok.free oks5 _
abbrev s7: HS:=(s6.fun_ (⟨#[103]⟩) ([(Wd.mk 1 2 (⟨#[]⟩) false)]: List Wd)).1
set_option maxHeartbeats 40000000 in
theorem c_sane {w0: World} {H: PHeap} (hI: Inv w0 H []): Calls prog 9 #[] w0 (fun e w'=> ∃ H',e=.returned (.bool true)/\Step w0 H [] w' H' []):=by
 have C:=Step.refl hI;refine enter [] func9 J ntmps9 J fun a q=>?_;refine wp_seq (ab (Ls J q fun a q=>?_));refine wpList_nil (aa (wp_seq (ab ?_)));have cn:=c_hNew (n:=16) C.inv.nil;refine lin J (aD func22 J J (q.evs J) q J (cn) ?_);rintro e w bt;obtain⟨a1,L1,rfl,bj,c5⟩:=newR_ok bt j0;refine⟨_,rfl,fun a q=>?_⟩;have C:=(Step.frame (Lc:= []) (R:= []) C c5).perm List.perm_append_comm;have V: HK a1 s0 L1:=bj;refine Lm J q fun a q=>?_;refine lin J (ad (v:=(pB a1)) q J J J fun a q=>?_);refine lin J (ad (v:=(iV 0)) q J J J fun a q=>?_);refine Ls J q fun a q=>?_;refine Ls J q fun a q=>?_;refine wpList_nil (aa (wp_seq (wp_seq (ab (Lm J q fun a q=>?_)))));refine lin J (bE (i:=0) (j:=0) q J J J fun a q=>?_);refine Lm J q fun a q=>?_;refine ae J q J J J (aj q J J fun a q=>?_);refine ae J q J J J (aW T44.und T103 q J J J fun a q=>?_);refine lin J (am q J J J fun a q=>?_);refine wpList_nil (aa (ah q J (wp_skip (aa (wp_seq (ab (Lm J q fun a q=>?_)))))));refine lin J (aG (vs:= [(0,(iV 1)),(1,(iV 1))]) (cells:= [(iV 1),(iV 1),(.string (⟨#[]⟩)),(.bool false)]) T35 PL35 q (q.evp J) J J fun a q=>?_);refine lin J (aG (vs:= [(0,(iV 2)),(2,(.string (⟨#[97]⟩)))]) (cells:= [(iV 2),(iV 0),(.string (⟨#[97]⟩)),(.bool false)]) T35 PL35 q (q.evp J) J J fun a q=>?_);refine lin J (aY (vs:= [(0,(.agg #[(iV 1),(iV 1),(.string (⟨#[]⟩)),(.bool false)])),(1,(.agg #[(iV 2),(iV 0),(.string (⟨#[97]⟩)),(.bool false)]))]) (cells:= [(iV 1),(iV 1),(.string (⟨#[]⟩)),(.bool false),(iV 2),(iV 0),(.string (⟨#[97]⟩)),(.bool false)]) T37.und T35 C q (q.evp J) J J J J fun d4 a w C q=>?_);obtain⟨cu,C,db,bz⟩:=C.give;have ai:=gy (C.tail []) V oks0 ((RdG.of_data C.inv (RowG.of_lit Wd.len ([(Wd.mk 1 1 (⟨#[]⟩) false),(Wd.mk 2 0 (⟨#[97]⟩) false)]: List Wd) bz j3 J)).fewer (bx [])) (s:=⟨#[102]⟩);rw [show (s0.fun_ (⟨#[102]⟩) ([(Wd.mk 1 1 (⟨#[]⟩) false),(Wd.mk 2 0 (⟨#[97]⟩) false)]: List Wd)).2.1=(Wd.mk 5 0 ⟨#[]⟩ true) from by kernel_rfl] at ai;rw [show (s0.fun_ (⟨#[102]⟩) ([(Wd.mk 1 1 (⟨#[]⟩) false),(Wd.mk 2 0 (⟨#[97]⟩) false)]: List Wd)).2.2=0 from by kernel_rfl] at ai;refine lin J (aD func23 J J (q.evs J) q J (ai) ?_);rintro e w ⟨ba,rfl,bp,cf⟩;refine⟨_,rfl,fun a q=>?_⟩;have C:=C.frameR [] cf;have V: HK a1 s1 ba:=bp;refine Lm J q fun a q=>?_;refine lin J (ad (v:=(.agg (wA (Wd.mk 5 0 ⟨#[]⟩ true)))) q J J J fun a q=>?_);refine lin J (ad (v:=(iV 0)) q J J J fun a q=>?_);refine lin J (aE (cs:= #[(iV 0),(iV 0),(.string (⟨#[]⟩)),(.bool false)]) T35 C q J J fun F a w C q=>?_);refine lin J (ak (cs':=(wA (Wd.mk 5 0 ⟨#[]⟩ true))) T35 C (i:=0) J q J J J J J J fun a w C q=>?_);refine Ls J q fun a q=>?_;refine wpList_nil (aa (wp_seq (wp_seq (ab (Lm J q fun a q=>?_)))));refine lin J (bE (i:=0) (j:=0) q J J J fun a q=>?_);refine Lm J q fun a q=>?_;refine ae J q J J J (al (vs:=(wL (Wd.mk 5 0 ⟨#[]⟩ true))) T35 J q J (C.blkL 0 J) J (ag J) J fun a q=>?_);refine ae J q J J J (aG (vs:= [(0,(iV 5)),(3,(.bool true))]) (cells:= [(iV 5),(iV 0),(.string (⟨#[]⟩)),(.bool true)]) T35 PL35 q (q.evp J) J J fun a q=>?_);refine ae J q J J J (fF (x1:=(Wd.mk 5 0 ⟨#[]⟩ true)) (y1:=(Wd.mk 5 0 (⟨#[]⟩) true)) q J J J fun a q=>?_);rw [show (!decide ((Wd.mk 5 0 ⟨#[]⟩ true)=(Wd.mk 5 0 (⟨#[]⟩) true)))=false from by simp] at q;refine lin J (am q J J J fun a q=>?_);refine Lm J q fun a q=>?_;refine ae J q J J J (aj q J J fun a q=>?_);have b1:=fX (C.tail [(eO F 35 (wA (Wd.mk 5 0 ⟨#[]⟩ true)))]) V;rw [show (HS.u s1)=3 from by kernel_rfl] at b1;refine ae J q J J J (aD func18 J J (q.evs J) q J (b1) ?_);rintro e w ⟨rfl,cm⟩;refine⟨_,rfl,fun a q=>?_⟩;have C:=C.frameR [(eO F 35 (wA (Wd.mk 5 0 ⟨#[]⟩ true)))] cm;refine ae J q J J J (bE (i:=3) (j:=3) q J J J fun a q=>?_);refine lin J (am q J J J fun a q=>?_);refine wpList_nil (aa (ah q J (wp_skip (aa (wp_seq (ab (Lm J q fun a q=>?_)))))));have a6:=c_hVar (C.tail [(eO F 35 (wA (Wd.mk 5 0 ⟨#[]⟩ true)))]) V oks1;rw [show (HS.var s1).2.1=(Wd.mk 4 3 ⟨#[]⟩ true) from by kernel_rfl] at a6;rw [show (HS.var s1).2.2=0 from by kernel_rfl] at a6;refine lin J (aD func24 J J (q.evs J) q J (a6) ?_);rintro e w ⟨b6,rfl,bk,c6⟩;refine⟨_,rfl,fun a q=>?_⟩;have C:=C.frameR [(eO F 35 (wA (Wd.mk 5 0 ⟨#[]⟩ true)))] c6;have V: HK a1 s2 b6:=bk;refine Lm J q fun a q=>?_;refine lin J (ad (v:=(.agg (wA (Wd.mk 4 3 ⟨#[]⟩ true)))) q J J J fun a q=>?_);refine lin J (ad (v:=(iV 0)) q J J J fun a q=>?_);refine lin J (aE (cs:= #[(iV 0),(iV 0),(.string (⟨#[]⟩)),(.bool false)]) T35 C q J J fun G a w C q=>?_);refine lin J (ak (cs':=(wA (Wd.mk 4 3 ⟨#[]⟩ true))) T35 C (i:=0) J q J J J J J J fun a w C q=>?_);refine Ls J q fun a q=>?_;refine wpList_nil (aa (wp_seq (ab (Lm J q fun a q=>?_))));refine lin J (al (vs:=(wL (Wd.mk 4 3 ⟨#[]⟩ true))) T35 J q J (C.blkL 0 J) J (ag J) J fun a q=>?_);refine lin J (aY (vs:= [(0,(.agg (wA (Wd.mk 4 3 ⟨#[]⟩ true))))]) (cells:=(wL (Wd.mk 4 3 ⟨#[]⟩ true))) T37.und T35 C q (q.evp J) J J J J fun d3 a w C q=>?_);obtain⟨cr,C,da,bv⟩:=C.give;have a7:=c_hVec (C.tail [(eO G 35 (wA (Wd.mk 4 3 ⟨#[]⟩ true))),(eO F 35 (wA (Wd.mk 5 0 ⟨#[]⟩ true)))]) V oks2 ((RdG.of_data C.inv (RowG.of_lit Wd.len ([(Wd.mk 4 3 ⟨#[]⟩ true)]: List Wd) bv j3 J)).fewer (bx [(eO G 35 (wA (Wd.mk 4 3 ⟨#[]⟩ true))),(eO F 35 (wA (Wd.mk 5 0 ⟨#[]⟩ true)))]));rw [show (s2.vec ([(Wd.mk 4 3 ⟨#[]⟩ true)]: List Wd)).2.1=(Wd.mk 6 4 ⟨#[]⟩ true) from by kernel_rfl] at a7;rw [show (s2.vec ([(Wd.mk 4 3 ⟨#[]⟩ true)]: List Wd)).2.2=0 from by kernel_rfl] at a7;refine lin J (aD func25 J J (q.evs J) q J (a7) ?_);rintro e w ⟨b7,rfl,bl,c7⟩;refine⟨_,rfl,fun a q=>?_⟩;have C:=C.frameR [(eO G 35 (wA (Wd.mk 4 3 ⟨#[]⟩ true))),(eO F 35 (wA (Wd.mk 5 0 ⟨#[]⟩ true)))] c7;have V: HK a1 s3 b7:=bl;refine Lm J q fun a q=>?_;refine lin J (ad (v:=(.agg (wA (Wd.mk 6 4 ⟨#[]⟩ true)))) q J J J fun a q=>?_);refine lin J (ad (v:=(iV 0)) q J J J fun a q=>?_);refine lin J (aE (cs:= #[(iV 0),(iV 0),(.string (⟨#[]⟩)),(.bool false)]) T35 C q J J fun I a w C q=>?_);refine lin J (ak (cs':=(wA (Wd.mk 6 4 ⟨#[]⟩ true))) T35 C (i:=0) J q J J J J J J fun a w C q=>?_);refine Ls J q fun a q=>?_;refine wpList_nil (aa (wp_seq (wp_seq (ab (Lm J q fun a q=>?_)))));refine lin J (bE (i:=0) (j:=0) q J J J fun a q=>?_);refine Lm J q fun a q=>?_;refine ae J q J J J (aj q J J fun a q=>?_);refine ae J q J J J (bE (i:=0) (j:=0) q J J J fun a q=>?_);refine lin J (am q J J J fun a q=>?_);refine Lm J q fun a q=>?_;refine ae J q J J J (al (vs:=(wL (Wd.mk 4 3 ⟨#[]⟩ true))) T35 J q J (C.blkL 1 J) J (ag J) J fun a q=>?_);refine ae J q J J J (aG (vs:= [(0,(iV 4)),(1,(iV 3)),(3,(.bool true))]) (cells:= [(iV 4),(iV 3),(.string (⟨#[]⟩)),(.bool true)]) T35 PL35 q (q.evp J) J J fun a q=>?_);refine ae J q J J J (fF (x1:=(Wd.mk 4 3 ⟨#[]⟩ true)) (y1:=(Wd.mk 4 3 (⟨#[]⟩) true)) q J J J fun a q=>?_);rw [show (!decide ((Wd.mk 4 3 ⟨#[]⟩ true)=(Wd.mk 4 3 (⟨#[]⟩) true)))=false from by simp] at q;refine lin J (am q J J J fun a q=>?_);refine Lm J q fun a q=>?_;refine ae J q J J J (al (vs:=(wL (Wd.mk 6 4 ⟨#[]⟩ true))) T35 J q J (C.blkL 0 J) J (ag J) J fun a q=>?_);refine ae J q J J J (aG (vs:= [(0,(iV 6)),(1,(iV 4)),(3,(.bool true))]) (cells:= [(iV 6),(iV 4),(.string (⟨#[]⟩)),(.bool true)]) T35 PL35 q (q.evp J) J J fun a q=>?_);refine ae J q J J J (fF (x1:=(Wd.mk 6 4 ⟨#[]⟩ true)) (y1:=(Wd.mk 6 4 (⟨#[]⟩) true)) q J J J fun a q=>?_);rw [show (!decide ((Wd.mk 6 4 ⟨#[]⟩ true)=(Wd.mk 6 4 (⟨#[]⟩) true)))=false from by simp] at q;refine lin J (am q J J J fun a q=>?_);refine Lm J q fun a q=>?_;refine ae J q J J J (aj q J J fun a q=>?_);have ap:=fX (C.tail [(eO I 35 (wA (Wd.mk 6 4 ⟨#[]⟩ true))),(eO G 35 (wA (Wd.mk 4 3 ⟨#[]⟩ true))),(eO F 35 (wA (Wd.mk 5 0 ⟨#[]⟩ true)))]) V;rw [show (HS.u s3)=6 from by kernel_rfl] at ap;refine ae J q J J J (aD func18 J J (q.evs J) q J (ap) ?_);rintro e w ⟨rfl,c8⟩;refine⟨_,rfl,fun a q=>?_⟩;have C:=C.frameR [(eO I 35 (wA (Wd.mk 6 4 ⟨#[]⟩ true))),(eO G 35 (wA (Wd.mk 4 3 ⟨#[]⟩ true))),(eO F 35 (wA (Wd.mk 5 0 ⟨#[]⟩ true)))] c8;refine ae J q J J J (bE (i:=6) (j:=6) q J J J fun a q=>?_);refine lin J (am q J J J fun a q=>?_);refine wpList_nil (aa (ah q J (wp_skip (aa (wp_seq (ab (Lm J q fun a q=>?_)))))));refine lin J (al (vs:=(wL (Wd.mk 6 4 ⟨#[]⟩ true))) T35 J q J (C.blkL 0 J) J (ag J) J fun a q=>?_);have a8:=fW (C.tail [(eO I 35 (wA (Wd.mk 6 4 ⟨#[]⟩ true))),(eO G 35 (wA (Wd.mk 4 3 ⟨#[]⟩ true))),(eO F 35 (wA (Wd.mk 5 0 ⟨#[]⟩ true)))]) V (x:=(Wd.mk 6 4 ⟨#[]⟩ true));rw [show (readS (HS.S s3) (Wd.mk 6 4 ⟨#[]⟩ true)).1=(Tm.mk 6 0 ⟨#[]⟩ [Tm.mk 1 3 ⟨#[]⟩ []]) from by kernel_rfl] at a8;rw [show (readS (HS.S s3) (Wd.mk 6 4 ⟨#[]⟩ true)).2=0 from by kernel_rfl] at a8;refine lin J (aD func16 J J (q.evs J) q J (a8) ?_);rintro e w ⟨ct,O,T,rfl,ao,c9⟩;refine⟨_,rfl,fun a q=>?_⟩;have C:=C.frameR [(eO I 35 (wA (Wd.mk 6 4 ⟨#[]⟩ true))),(eO G 35 (wA (Wd.mk 4 3 ⟨#[]⟩ true))),(eO F 35 (wA (Wd.mk 5 0 ⟨#[]⟩ true)))] c9;refine Lm J q fun a q=>?_;refine lin J (ad (v:=(tv ((Tm.mk 6 0 ⟨#[]⟩ [Tm.mk 1 3 ⟨#[]⟩ []])) O T)) q J J J fun a q=>?_);refine lin J (ad (v:=(iV 0)) q J J J fun a q=>?_);refine lin J (aE (cs:=aZ) T41 C q J J fun X a w C q=>?_);refine lin J (ak (cs':=(tA ((Tm.mk 6 0 ⟨#[]⟩ [Tm.mk 1 3 ⟨#[]⟩ []])) O T)) T41 C (i:=0) J q J J J J J J fun a w C q=>?_);refine Ls J q fun a q=>?_;refine wpList_nil (aa (wp_seq (wp_seq (ab (Lm J q fun a q=>?_)))));refine lin J (bE (i:=0) (j:=0) q J J J fun a q=>?_);refine Lm J q fun a q=>?_;refine ae J q J J J (al (vs:=(tL ((Tm.mk 6 0 ⟨#[]⟩ [Tm.mk 1 3 ⟨#[]⟩ []])) O T)) T41 J q J (C.blkL 0 J) J (ag J) J fun a q=>?_);refine ae J q J J J (aG (vs:= [(0,(iV 1)),(1,(iV 3))]) (cells:= [(iV 1),(iV 3),(.string (⟨#[]⟩)),(.slice none 0 0)]) T41 PL41 q (q.evp J) J J fun a q=>?_);refine ae J q J J J (aY (vs:= [(0,(.agg #[(iV 1),(iV 3),(.string (⟨#[]⟩)),(.slice none 0 0)]))]) (cells:= [(iV 1),(iV 3),(.string (⟨#[]⟩)),(.slice none 0 0)]) T39.und T41 C q (q.evp J) J J J J fun a4 a w C q=>?_);obtain⟨b4,C,co,bw⟩:=C.give;have ao:=ao.mono co;have cp: RowT b4 (some ⟨a4,0,none⟩) 1 [(Tm.mk 1 3 (⟨#[]⟩) [])]:=RowT.of_lit ([⟨(Tm.mk 1 3 (⟨#[]⟩) []),none,0⟩]: List TV) bw (AllR.cons (RowT.nil _) (AllR.nil _)) j3 J;refine ae J q J J J (aG (vs:= [(0,(iV 6)),(3,(.slice (some ⟨a4,0,none⟩) 1 1))]) (cells:= [(iV 6),(iV 0),(.string (⟨#[]⟩)),(.slice (some ⟨a4,0,none⟩) 1 1)]) T41 PL41 q (q.evp J) J J fun a q=>?_);have ar:=c_Same (Tm.mk 6 0 ⟨#[]⟩ [Tm.mk 1 3 ⟨#[]⟩ []]) (Tm.mk 6 0 (⟨#[]⟩) ([(Tm.mk 1 3 (⟨#[]⟩) [])])) _ _ _ _ _ _ ao cp C.inv.nil;rw [show eqT (Tm.mk 6 0 ⟨#[]⟩ [Tm.mk 1 3 ⟨#[]⟩ []]) (Tm.mk 6 0 (⟨#[]⟩) ([(Tm.mk 1 3 (⟨#[]⟩) [])]))=true from by kernel_rfl] at ar;refine ae J q J J J (aD func26 J J (q.evs J) q J (ar) ?_);rintro e w ⟨rfl,a5⟩;refine⟨_,rfl,fun a q=>?_⟩;have C:=C.call a5;refine ae J q J J J (aS q J J fun a q=>?_);refine lin J (am q J J J fun a q=>?_);refine Lm J q fun a q=>?_;refine ae J q J J J (aj q J J fun a q=>?_);refine ae J q J J J (al (vs:=(wL (Wd.mk 4 3 ⟨#[]⟩ true))) T35 J q J (C.blkL 2 J) J (ag J) J fun a q=>?_);have au:=c_Hook (C.tail [(eO X 41 (tA ((Tm.mk 6 0 ⟨#[]⟩ [Tm.mk 1 3 ⟨#[]⟩ []])) O T)),(eO I 35 (wA (Wd.mk 6 4 ⟨#[]⟩ true))),(eO G 35 (wA (Wd.mk 4 3 ⟨#[]⟩ true))),(eO F 35 (wA (Wd.mk 5 0 ⟨#[]⟩ true)))]) V oks3 (v:=(Wd.mk 4 3 ⟨#[]⟩ true)) (g:=7);rw [show (s3.hook (Wd.mk 4 3 ⟨#[]⟩ true) 7).2=0 from by kernel_rfl] at au;refine ae J q J J J (aD func27 J J (q.evs J) q J (au) ?_);rintro e w ⟨b8,rfl,bm,ca⟩;refine⟨_,rfl,fun a q=>?_⟩;have C:=C.frameR [(eO X 41 (tA ((Tm.mk 6 0 ⟨#[]⟩ [Tm.mk 1 3 ⟨#[]⟩ []])) O T)),(eO I 35 (wA (Wd.mk 6 4 ⟨#[]⟩ true))),(eO G 35 (wA (Wd.mk 4 3 ⟨#[]⟩ true))),(eO F 35 (wA (Wd.mk 5 0 ⟨#[]⟩ true)))] ca;have V: HK a1 s4 b8:=bm;refine ae J q J J J (bE (i:=0) (j:=0) q J J J fun a q=>?_);refine lin J (am q J J J fun a q=>?_);refine wpList_nil (aa (ah q J (wp_skip (aa (wp_seq (ab (Lm J q fun a q=>?_)))))));refine lin J (al (vs:=(wL (Wd.mk 4 3 ⟨#[]⟩ true))) T35 J q J (C.blkL 2 J) J (ag J) J fun a q=>?_);refine lin J (al (vs:=(wL (Wd.mk 5 0 ⟨#[]⟩ true))) T35 J q J (C.blkL 3 J) J (ag J) J fun a q=>?_);have a2:=c_Bind (C.tail [(eO X 41 (tA ((Tm.mk 6 0 ⟨#[]⟩ [Tm.mk 1 3 ⟨#[]⟩ []])) O T)),(eO I 35 (wA (Wd.mk 6 4 ⟨#[]⟩ true))),(eO G 35 (wA (Wd.mk 4 3 ⟨#[]⟩ true))),(eO F 35 (wA (Wd.mk 5 0 ⟨#[]⟩ true)))]) V oks4 (v:=(Wd.mk 4 3 ⟨#[]⟩ true)) (x:=(Wd.mk 5 0 ⟨#[]⟩ true));rw [show ((s4.bind (Wd.mk 4 3 ⟨#[]⟩ true) (Wd.mk 5 0 ⟨#[]⟩ true)).2.1)=([7]: List Int) from by kernel_rfl] at a2;rw [show (s4.bind (Wd.mk 4 3 ⟨#[]⟩ true) (Wd.mk 5 0 ⟨#[]⟩ true)).2.2=0 from by kernel_rfl] at a2;rw [show ([7]: List Int).length=1 from by kernel_rfl] at a2;refine lin J (aD func28 J J (q.evs J) q J (a2) ?_);rintro e w ⟨b9,b2,bh,Y,rfl,bu,bo,cc⟩;refine⟨_,rfl,fun a q=>?_⟩;have C:=C.frameR [(eO X 41 (tA ((Tm.mk 6 0 ⟨#[]⟩ [Tm.mk 1 3 ⟨#[]⟩ []])) O T)),(eO I 35 (wA (Wd.mk 6 4 ⟨#[]⟩ true))),(eO G 35 (wA (Wd.mk 4 3 ⟨#[]⟩ true))),(eO F 35 (wA (Wd.mk 5 0 ⟨#[]⟩ true)))] cc;have V: HK a1 s5 b9:=bo;refine Lm J q fun a q=>?_;refine lin J (ad (v:=(.slice b2 1 bh)) q J J J fun a q=>?_);refine lin J (ad (v:=(iV 0)) q J J J fun a q=>?_);refine Ls J q fun a q=>?_;refine Ls J q fun a q=>?_;refine wpList_nil (aa (wp_seq (ab (Lm J q fun a q=>?_))));refine lin J (al (vs:=(wL (Wd.mk 4 3 ⟨#[]⟩ true))) T35 J q J (C.blkL 2 J) J (ag J) J fun a q=>?_);have a9:=c_Deref (C.tail [(eO X 41 (tA ((Tm.mk 6 0 ⟨#[]⟩ [Tm.mk 1 3 ⟨#[]⟩ []])) O T)),(eO I 35 (wA (Wd.mk 6 4 ⟨#[]⟩ true))),(eO G 35 (wA (Wd.mk 4 3 ⟨#[]⟩ true))),(eO F 35 (wA (Wd.mk 5 0 ⟨#[]⟩ true))),Y]) V (x:=(Wd.mk 4 3 ⟨#[]⟩ true));rw [show (valueS (HS.S s5) (Wd.mk 4 3 ⟨#[]⟩ true)).1=(Wd.mk 5 0 ⟨#[]⟩ true) from by kernel_rfl] at a9;rw [show (valueS (HS.S s5) (Wd.mk 4 3 ⟨#[]⟩ true)).2=0 from by kernel_rfl] at a9;refine lin J (aD func29 J J (q.evs J) q J (a9) ?_);rintro e w ⟨rfl,cd⟩;refine⟨_,rfl,fun a q=>?_⟩;have C:=C.frameR [(eO X 41 (tA ((Tm.mk 6 0 ⟨#[]⟩ [Tm.mk 1 3 ⟨#[]⟩ []])) O T)),(eO I 35 (wA (Wd.mk 6 4 ⟨#[]⟩ true))),(eO G 35 (wA (Wd.mk 4 3 ⟨#[]⟩ true))),(eO F 35 (wA (Wd.mk 5 0 ⟨#[]⟩ true))),Y] cd;refine Lm J q fun a q=>?_;refine lin J (ad (v:=(.agg (wA (Wd.mk 5 0 ⟨#[]⟩ true)))) q J J J fun a q=>?_);refine lin J (ad (v:=(iV 0)) q J J J fun a q=>?_);refine lin J (aE (cs:= #[(iV 0),(iV 0),(.string (⟨#[]⟩)),(.bool false)]) T35 C q J J fun Z a w C q=>?_);refine lin J (ak (cs':=(wA (Wd.mk 5 0 ⟨#[]⟩ true))) T35 C (i:=0) J q J J J J J J fun a w C q=>?_);refine Ls J q fun a q=>?_;refine wpList_nil (aa (wp_seq (wp_seq (ab (Lm J q fun a q=>?_)))));refine lin J (bE (i:=0) (j:=0) q J J J fun a q=>?_);refine Lm J q fun a q=>?_;refine ae J q J J J (aj q J J fun a q=>?_);refine ae J q J J J (bE (i:=0) (j:=0) q J J J fun a q=>?_);refine lin J (am q J J J fun a q=>?_);refine Lm J q fun a q=>?_;refine ae J q J J J (aj q J J fun a q=>?_);refine ae J q J J J (aY (vs:= [(0,(iV 7))]) (cells:= [(iV 7)]) T26.und T3 C q (q.evp J) J J J J fun bg a w C q=>?_);obtain⟨b5,C,dc,c0⟩:=C.give;have cq: RowI b5 (some ⟨bg,0,none⟩) 1 [7]:=RowI.of_lit [7] c0 j3 J;have av:=c_EqualI C.inv.nil (RdI.of_row C.inv bu 5 J j0) (RdI.of_data C.inv cq);rw [show decide (([7]: List Int)= [7])=true from by kernel_rfl] at av;refine ae J q J J J (aD func21 J J (q.evs J) q J (av) ?_);rintro e w ⟨rfl,a5⟩;refine⟨_,rfl,fun a q=>?_⟩;have C:=C.call a5;refine ae J q J J J (aS q J J fun a q=>?_);refine lin J (am q J J J fun a q=>?_);refine Lm J q fun a q=>?_;refine ae J q J J J (al (vs:=(wL (Wd.mk 5 0 ⟨#[]⟩ true))) T35 J q J (C.blkL 0 J) J (ag J) J fun a q=>?_);refine ae J q J J J (al (vs:=(wL (Wd.mk 5 0 ⟨#[]⟩ true))) T35 J q J (C.blkL 4 J) J (ag J) J fun a q=>?_);refine ae J q J J J (fF (x1:=(Wd.mk 5 0 ⟨#[]⟩ true)) (y1:=(Wd.mk 5 0 ⟨#[]⟩ true)) q J J J fun a q=>?_);rw [show (!decide ((Wd.mk 5 0 ⟨#[]⟩ true)=(Wd.mk 5 0 ⟨#[]⟩ true)))=false from by simp] at q;refine lin J (am q J J J fun a q=>?_);refine Lm J q fun a q=>?_;refine ae J q J J J (aj q J J fun a q=>?_);refine ae J q J J J (al (vs:=(wL (Wd.mk 6 4 ⟨#[]⟩ true))) T35 J q J (C.blkL 2 J) J (ag J) J fun a q=>?_);refine ae J q J J J (al (vs:=(wL (Wd.mk 5 0 ⟨#[]⟩ true))) T35 J q J (C.blkL 4 J) J (ag J) J fun a q=>?_);refine ae J q J J J (aY (vs:= [(0,(.agg (wA (Wd.mk 6 4 ⟨#[]⟩ true)))),(1,(.agg (wA (Wd.mk 5 0 ⟨#[]⟩ true))))]) (cells:= [(iV (((Wd.mk 6 4 ⟨#[]⟩ true)).tag)),(iV (((Wd.mk 6 4 ⟨#[]⟩ true)).n)),(.string (((Wd.mk 6 4 ⟨#[]⟩ true)).s)),(.bool (((Wd.mk 6 4 ⟨#[]⟩ true)).one)),(iV (((Wd.mk 5 0 ⟨#[]⟩ true)).tag)),(iV (((Wd.mk 5 0 ⟨#[]⟩ true)).n)),(.string (((Wd.mk 5 0 ⟨#[]⟩ true)).s)),(.bool (((Wd.mk 5 0 ⟨#[]⟩ true)).one))]) T37.und T35 C q (q.evp J) J J J J fun d5 a w C q=>?_);obtain⟨cv,C,df,c1⟩:=C.give;have aw:=e7 (C.tail [(eO Z 35 (wA (Wd.mk 5 0 ⟨#[]⟩ true))),(eO X 41 (tA ((Tm.mk 6 0 ⟨#[]⟩ [Tm.mk 1 3 ⟨#[]⟩ []])) O T)),(eO I 35 (wA (Wd.mk 6 4 ⟨#[]⟩ true))),(eO G 35 (wA (Wd.mk 4 3 ⟨#[]⟩ true))),(eO F 35 (wA (Wd.mk 5 0 ⟨#[]⟩ true))),Y]) V oks5 (RowG.of_lit Wd.len ([(Wd.mk 6 4 ⟨#[]⟩ true),(Wd.mk 5 0 ⟨#[]⟩ true)]: List Wd) c1 j3 J);rw [show (auditS (HS.S s5) ([(Wd.mk 6 4 ⟨#[]⟩ true),(Wd.mk 5 0 ⟨#[]⟩ true)]: List Wd))=213 from by kernel_rfl] at aw;refine ae J q J J J (aD func30 J J (q.evs J) q J (aw) ?_);rintro e w ⟨cw,rfl,ce⟩;refine⟨_,rfl,fun a q=>?_⟩;have C:=C.frameR [(eO Z 35 (wA (Wd.mk 5 0 ⟨#[]⟩ true))),(eO X 41 (tA ((Tm.mk 6 0 ⟨#[]⟩ [Tm.mk 1 3 ⟨#[]⟩ []])) O T)),(eO I 35 (wA (Wd.mk 6 4 ⟨#[]⟩ true))),(eO G 35 (wA (Wd.mk 4 3 ⟨#[]⟩ true))),(eO F 35 (wA (Wd.mk 5 0 ⟨#[]⟩ true))),Y] ce;refine ae J q J J J (bE (i:=213) (j:=213) q J J J fun a q=>?_);refine lin J (am q J J J fun a q=>?_);refine Lm J q fun a q=>?_;refine ae J q J J J (aj q J J fun a q=>?_);refine ae J q J J J (al (vs:=(wL (Wd.mk 6 4 ⟨#[]⟩ true))) T35 J q J (C.blkL 2 J) J (ag J) J fun a q=>?_);refine ae J q J J J (aY (vs:= [(0,(.agg (wA (Wd.mk 6 4 ⟨#[]⟩ true))))]) (cells:=(wL (Wd.mk 6 4 ⟨#[]⟩ true))) T37.und T35 C q (q.evp J) J J J J fun d6 a w C q=>?_);obtain⟨cx,C,dg,c2⟩:=C.give;have ax:=e7 (C.tail [(eO Z 35 (wA (Wd.mk 5 0 ⟨#[]⟩ true))),(eO X 41 (tA ((Tm.mk 6 0 ⟨#[]⟩ [Tm.mk 1 3 ⟨#[]⟩ []])) O T)),(eO I 35 (wA (Wd.mk 6 4 ⟨#[]⟩ true))),(eO G 35 (wA (Wd.mk 4 3 ⟨#[]⟩ true))),(eO F 35 (wA (Wd.mk 5 0 ⟨#[]⟩ true))),Y]) V oks5 (RowG.of_lit Wd.len ([(Wd.mk 6 4 ⟨#[]⟩ true)]: List Wd) c2 j3 J);rw [show (auditS (HS.S s5) ([(Wd.mk 6 4 ⟨#[]⟩ true)]: List Wd))=0 from by kernel_rfl] at ax;refine ae J q J J J (aD func30 J J (q.evs J) q J (ax) ?_);rintro e w ⟨cy,rfl,cg⟩;refine⟨_,rfl,fun a q=>?_⟩;have C:=C.frameR [(eO Z 35 (wA (Wd.mk 5 0 ⟨#[]⟩ true))),(eO X 41 (tA ((Tm.mk 6 0 ⟨#[]⟩ [Tm.mk 1 3 ⟨#[]⟩ []])) O T)),(eO I 35 (wA (Wd.mk 6 4 ⟨#[]⟩ true))),(eO G 35 (wA (Wd.mk 4 3 ⟨#[]⟩ true))),(eO F 35 (wA (Wd.mk 5 0 ⟨#[]⟩ true))),Y] cg;refine ae J q J J J (bE (i:=0) (j:=0) q J J J fun a q=>?_);refine lin J (am q J J J fun a q=>?_);refine wpList_nil (aa (ah q J (wp_skip (aa (wp_seq (ab (Lm J q fun a q=>?_)))))));refine lin J (al (vs:=(wL (Wd.mk 5 0 ⟨#[]⟩ true))) T35 J q J (C.blkL 4 J) J (ag J) J fun a q=>?_);have a3:=gx (C.tail [(eO Z 35 (wA (Wd.mk 5 0 ⟨#[]⟩ true))),(eO X 41 (tA ((Tm.mk 6 0 ⟨#[]⟩ [Tm.mk 1 3 ⟨#[]⟩ []])) O T)),(eO I 35 (wA (Wd.mk 6 4 ⟨#[]⟩ true))),(eO G 35 (wA (Wd.mk 4 3 ⟨#[]⟩ true))),(eO F 35 (wA (Wd.mk 5 0 ⟨#[]⟩ true))),Y]) V oks5 (x:=(Wd.mk 5 0 ⟨#[]⟩ true));rw [show ((s5.free (Wd.mk 5 0 ⟨#[]⟩ true)).2.1)=([Wd.mk 1 1 ⟨#[]⟩ false,Wd.mk 2 0 ⟨#[97]⟩ false]: List Wd) from by kernel_rfl] at a3;rw [show (s5.free (Wd.mk 5 0 ⟨#[]⟩ true)).2.2=0 from by kernel_rfl] at a3;rw [show ([Wd.mk 1 1 ⟨#[]⟩ false,Wd.mk 2 0 ⟨#[97]⟩ false]: List Wd).length=2 from by kernel_rfl] at a3;refine lin J (aD func31 J J (q.evs J) q J (a3) ?_);rintro e w ⟨bc,b3,bi,a0,rfl,d9,bq,ch⟩;refine⟨_,rfl,fun a q=>?_⟩;have C:=C.frameR [(eO Z 35 (wA (Wd.mk 5 0 ⟨#[]⟩ true))),(eO X 41 (tA ((Tm.mk 6 0 ⟨#[]⟩ [Tm.mk 1 3 ⟨#[]⟩ []])) O T)),(eO I 35 (wA (Wd.mk 6 4 ⟨#[]⟩ true))),(eO G 35 (wA (Wd.mk 4 3 ⟨#[]⟩ true))),(eO F 35 (wA (Wd.mk 5 0 ⟨#[]⟩ true))),Y] ch;have V: HK a1 s6 bc:=bq;refine Lm J q fun a q=>?_;refine lin J (ad (v:=(.slice b3 2 bi)) q J J J fun a q=>?_);refine lin J (ad (v:=(iV 0)) q J J J fun a q=>?_);refine Ls J q fun a q=>?_;refine Ls J q fun a q=>?_;refine wpList_nil (aa (wp_seq (wp_seq (ab (Lm J q fun a q=>?_)))));refine lin J (bE (i:=0) (j:=0) q J J J fun a q=>?_);refine Lm J q fun a q=>?_;refine ae J q J J J (aj q J J fun a q=>?_);refine ae J q J J J (aI T37.und q J J fun a q=>?_);refine ae J q J J J (bE (i:=2) (j:=2) q J J J fun a q=>?_);refine lin J (am q J J J fun a q=>?_);refine Lm J q fun a q=>?_;refine ae J q J J J (aj q J J fun a q=>?_);have ay:=fX (C.tail [(eO Z 35 (wA (Wd.mk 5 0 ⟨#[]⟩ true))),(eO X 41 (tA ((Tm.mk 6 0 ⟨#[]⟩ [Tm.mk 1 3 ⟨#[]⟩ []])) O T)),(eO I 35 (wA (Wd.mk 6 4 ⟨#[]⟩ true))),(eO G 35 (wA (Wd.mk 4 3 ⟨#[]⟩ true))),(eO F 35 (wA (Wd.mk 5 0 ⟨#[]⟩ true))),Y,a0]) V;rw [show (HS.u s6)=3 from by kernel_rfl] at ay;refine ae J q J J J (aD func18 J J (q.evs J) q J (ay) ?_);rintro e w ⟨rfl,ci⟩;refine⟨_,rfl,fun a q=>?_⟩;have C:=C.frameR [(eO Z 35 (wA (Wd.mk 5 0 ⟨#[]⟩ true))),(eO X 41 (tA ((Tm.mk 6 0 ⟨#[]⟩ [Tm.mk 1 3 ⟨#[]⟩ []])) O T)),(eO I 35 (wA (Wd.mk 6 4 ⟨#[]⟩ true))),(eO G 35 (wA (Wd.mk 4 3 ⟨#[]⟩ true))),(eO F 35 (wA (Wd.mk 5 0 ⟨#[]⟩ true))),Y,a0] ci;refine ae J q J J J (bE (i:=3) (j:=3) q J J J fun a q=>?_);refine lin J (am q J J J fun a q=>?_);refine Lm J q fun a q=>?_;refine ae J q J J J (aj q J J fun a q=>?_);refine ae J q J J J (al (vs:=(wL (Wd.mk 6 4 ⟨#[]⟩ true))) T35 J q J (C.blkL 2 J) J (ag J) J fun a q=>?_);refine ae J q J J J (aY (vs:= [(0,(.agg (wA (Wd.mk 6 4 ⟨#[]⟩ true))))]) (cells:=(wL (Wd.mk 6 4 ⟨#[]⟩ true))) T37.und T35 C q (q.evp J) J J J J fun d7 a w C q=>?_);obtain⟨cz,C,dh,c3⟩:=C.give;have az:=e7 (C.tail [(eO Z 35 (wA (Wd.mk 5 0 ⟨#[]⟩ true))),(eO X 41 (tA ((Tm.mk 6 0 ⟨#[]⟩ [Tm.mk 1 3 ⟨#[]⟩ []])) O T)),(eO I 35 (wA (Wd.mk 6 4 ⟨#[]⟩ true))),(eO G 35 (wA (Wd.mk 4 3 ⟨#[]⟩ true))),(eO F 35 (wA (Wd.mk 5 0 ⟨#[]⟩ true))),Y,a0]) V oks6 (RowG.of_lit Wd.len ([(Wd.mk 6 4 ⟨#[]⟩ true)]: List Wd) c3 j3 J);rw [show (auditS (HS.S s6) ([(Wd.mk 6 4 ⟨#[]⟩ true)]: List Wd))=213 from by kernel_rfl] at az;refine ae J q J J J (aD func30 J J (q.evs J) q J (az) ?_);rintro e w ⟨d0,rfl,cj⟩;refine⟨_,rfl,fun a q=>?_⟩;have C:=C.frameR [(eO Z 35 (wA (Wd.mk 5 0 ⟨#[]⟩ true))),(eO X 41 (tA ((Tm.mk 6 0 ⟨#[]⟩ [Tm.mk 1 3 ⟨#[]⟩ []])) O T)),(eO I 35 (wA (Wd.mk 6 4 ⟨#[]⟩ true))),(eO G 35 (wA (Wd.mk 4 3 ⟨#[]⟩ true))),(eO F 35 (wA (Wd.mk 5 0 ⟨#[]⟩ true))),Y,a0] cj;refine ae J q J J J (bE (i:=213) (j:=213) q J J J fun a q=>?_);refine lin J (am q J J J fun a q=>?_);refine Lm J q fun a q=>?_;refine ae J q J J J (aj q J J fun a q=>?_);have b0:=e7 (C.tail [(eO Z 35 (wA (Wd.mk 5 0 ⟨#[]⟩ true))),(eO X 41 (tA ((Tm.mk 6 0 ⟨#[]⟩ [Tm.mk 1 3 ⟨#[]⟩ []])) O T)),(eO I 35 (wA (Wd.mk 6 4 ⟨#[]⟩ true))),(eO G 35 (wA (Wd.mk 4 3 ⟨#[]⟩ true))),(eO F 35 (wA (Wd.mk 5 0 ⟨#[]⟩ true))),Y,a0]) V oks6 (RowG.nil (sz:=4) (f:=Wd.cells));rw [show (auditS (HS.S s6) ([]))=0 from by kernel_rfl] at b0;refine ae J q J J J (aD func30 J J (q.evs J) q J (b0) ?_);rintro e w ⟨d1,rfl,ck⟩;refine⟨_,rfl,fun a q=>?_⟩;have C:=C.frameR [(eO Z 35 (wA (Wd.mk 5 0 ⟨#[]⟩ true))),(eO X 41 (tA ((Tm.mk 6 0 ⟨#[]⟩ [Tm.mk 1 3 ⟨#[]⟩ []])) O T)),(eO I 35 (wA (Wd.mk 6 4 ⟨#[]⟩ true))),(eO G 35 (wA (Wd.mk 4 3 ⟨#[]⟩ true))),(eO F 35 (wA (Wd.mk 5 0 ⟨#[]⟩ true))),Y,a0] ck;refine ae J q J J J (bE (i:=0) (j:=0) q J J J fun a q=>?_);refine lin J (am q J J J fun a q=>?_);refine wpList_nil (aa (ah q J (wp_skip (aa (wp_seq (ab (Lm J q fun a q=>?_)))))));refine lin J (aG (vs:= [(0,(iV 1)),(1,(iV 2))]) (cells:= [(iV 1),(iV 2),(.string (⟨#[]⟩)),(.bool false)]) T35 PL35 q (q.evp J) J J fun a q=>?_);refine lin J (aY (vs:= [(0,(.agg #[(iV 1),(iV 2),(.string (⟨#[]⟩)),(.bool false)]))]) (cells:= [(iV 1),(iV 2),(.string (⟨#[]⟩)),(.bool false)]) T37.und T35 C q (q.evp J) J J J J fun d8 a w C q=>?_);obtain⟨d2,C,di,c4⟩:=C.give;have an:=gy (C.tail [(eO Z 35 (wA (Wd.mk 5 0 ⟨#[]⟩ true))),(eO X 41 (tA ((Tm.mk 6 0 ⟨#[]⟩ [Tm.mk 1 3 ⟨#[]⟩ []])) O T)),(eO I 35 (wA (Wd.mk 6 4 ⟨#[]⟩ true))),(eO G 35 (wA (Wd.mk 4 3 ⟨#[]⟩ true))),(eO F 35 (wA (Wd.mk 5 0 ⟨#[]⟩ true))),Y,a0]) V oks6 ((RdG.of_data C.inv (RowG.of_lit Wd.len ([(Wd.mk 1 2 (⟨#[]⟩) false)]: List Wd) c4 j3 J)).fewer (bx [(eO Z 35 (wA (Wd.mk 5 0 ⟨#[]⟩ true))),(eO X 41 (tA ((Tm.mk 6 0 ⟨#[]⟩ [Tm.mk 1 3 ⟨#[]⟩ []])) O T)),(eO I 35 (wA (Wd.mk 6 4 ⟨#[]⟩ true))),(eO G 35 (wA (Wd.mk 4 3 ⟨#[]⟩ true))),(eO F 35 (wA (Wd.mk 5 0 ⟨#[]⟩ true))),Y,a0])) (s:=⟨#[103]⟩);rw [show (s6.fun_ (⟨#[103]⟩) ([(Wd.mk 1 2 (⟨#[]⟩) false)]: List Wd)).2.1=(Wd.mk 5 0 ⟨#[]⟩ true) from by kernel_rfl] at an;rw [show (s6.fun_ (⟨#[103]⟩) ([(Wd.mk 1 2 (⟨#[]⟩) false)]: List Wd)).2.2=0 from by kernel_rfl] at an;refine lin J (aD func23 J J (q.evs J) q J (an) ?_);rintro e w ⟨bf,rfl,br,cl⟩;refine⟨_,rfl,fun a q=>?_⟩;have C:=C.frameR [(eO Z 35 (wA (Wd.mk 5 0 ⟨#[]⟩ true))),(eO X 41 (tA ((Tm.mk 6 0 ⟨#[]⟩ [Tm.mk 1 3 ⟨#[]⟩ []])) O T)),(eO I 35 (wA (Wd.mk 6 4 ⟨#[]⟩ true))),(eO G 35 (wA (Wd.mk 4 3 ⟨#[]⟩ true))),(eO F 35 (wA (Wd.mk 5 0 ⟨#[]⟩ true))),Y,a0] cl;have V: HK a1 s7 bf:=br;refine Lm J q fun a q=>?_;refine lin J (ad (v:=(.agg (wA (Wd.mk 5 0 ⟨#[]⟩ true)))) q J J J fun a q=>?_);refine lin J (ad (v:=(iV 0)) q J J J fun a q=>?_);refine lin J (ak (cs':=(wA (Wd.mk 5 0 ⟨#[]⟩ true))) T35 C (i:=4) J q J J J J J J fun a w C q=>?_);refine Ls J q fun a q=>?_;refine wpList_nil (aa (wp_seq (ab (Lm J q fun a q=>?_))));refine lin J (bn (i:=0) (j:=0) q J J J fun a q=>?_);refine Lm J q fun a q=>?_;refine ae J q J J J (ac (f:=1) (o2:=1) T35 T3 J J J J q J J fun a q=>?_);refine ae J q J J J (af (v:=(iV (((Wd.mk 5 0 ⟨#[]⟩ true)).n))) T3 J q J (C.blkL 4 J) J J fun a q=>?_);refine ae J q J J J (bn (i:=(((Wd.mk 5 0 ⟨#[]⟩ true)).n)) (j:=0) q J J J fun a q=>?_);refine lin J (aq q J J J fun a q=>?_);refine Ls J q fun a q=>?_;refine wpList_nil (aa (wp_ret (ret1 J q J ?_)));exact⟨_,rfl,C.drop_all⟩
end Go.Vk.Tryz
namespace Go.Vk
open Go.RowKit
section
variable {P: Program} {K: Act->World->Prop} {Q: Exit->Act->World->Prop} {D: List Deferred} {a: Act} {w w0: World} {H0 H: PHeap} {L0 L: List Ent} {N: Nat} {m: Env} {d: Nat} {ty: TypeId} {pos: String} {aft: Array Edge} {g: Option (Nat × Bool)}
variable {x y y' y'': Operand} {t e: TypeId} {de: TypeDesc} {size bytes: Nat} {z: Value} {b o n c l h: Nat} {i i' i'': Int}
theorem o_slice2 (ht: P.underlying t=some (.slice e)) (T: Ty P e de size bytes z) (ha: Has D a N m) (hx: ev m x=some (.slice (some ⟨b,o,none⟩) n c)) (hy: ev m y=some (.int .i64 i)) (hy': ev m y'=some (.int .i64 i')) (hi: i=(l: Int)) (hi': i'=(h: Int)) (hlh: l<=h) (hc: h<=c) (hlc: l < c) (hd: Nat.blt d N=true)
  (k: ∀ a',Has D a' N ((d,.slice (some ⟨b,o+l * size,none⟩) (h - l) (c - l))::m)->K a' w): Oper.wp P ⟨some d,.slice t x (some y) (some y') none,ty,pos,aft,g⟩ a w K Q:=by
 subst hi hi';refine aM ?_ ha hd k;have h1: ¬ c=l:=by omega
 simp [execOp,ha.ev hx,ha.ev hy,ha.ev hy',Instr.sliceAt,Instr.slice,Instr.sliceBounds,Instr.sliceBound,asIntOf,run_underlying ht,T.run_sizeOf,hlh,hc,h1,aO]
theorem o_slice3 {q: Nat} (ht: P.underlying t=some (.slice e)) (T: Ty P e de size bytes z) (ha: Has D a N m) (hx: ev m x=some (.slice (some ⟨b,o,none⟩) n c)) (hy: ev m y=some (.int .i64 i)) (hy': ev m y'=some (.int .i64 i')) (hy'': ev m y''=some (.int .i64 i'')) (hi: i=(l: Int)) (hi': i'=(h: Int)) (hi'': i''=(q: Int)) (hlh: l<=h) (hhq: h<=q) (hc: q<=c) (hlq: l < q) (hd: Nat.blt d N=true)
  (k: ∀ a',Has D a' N ((d,.slice (some ⟨b,o+l * size,none⟩) (h - l) (q - l))::m)->K a' w): Oper.wp P ⟨some d,.slice t x (some y) (some y') (some y''),ty,pos,aft,g⟩ a w K Q:=by
 subst hi hi' hi'';refine aM ?_ ha hd k;have h1: ¬ q=l:=by omega
 simp [execOp,ha.ev hx,ha.ev hy,ha.ev hy',ha.ev hy'',Instr.sliceAt,Instr.slice,Instr.sliceBounds,Instr.sliceBound,asIntOf,run_underlying ht,T.run_sizeOf,hlh,hhq,hc,h1,aO]
theorem o_sliceL (ht: P.underlying t=some (.slice e)) (T: Ty P e de size bytes z) (ha: Has D a N m) (hx: ev m x=some (.slice (some ⟨b,o,none⟩) n c)) (hy: ev m y=some (.int .i64 i)) (hi: i=(l: Int)) (hlh: l<=n) (hc: n<=c) (hd: Nat.blt d N=true)
  (k: ∀ a',Has D a' N ((d,.slice (some ⟨b,if c=l then o else o+l * size,none⟩) (n - l) (c - l))::m)->K a' w): Oper.wp P ⟨some d,.slice t x (some y) none none,ty,pos,aft,g⟩ a w K Q:=by
 subst hi;refine aM (v:=.slice (some ⟨b,if c=l then o else o+l * size,none⟩) (n - l) (c - l)) (w':=w) ?_ ha hd k
 by_cases h1: c=l
 ·simp [execOp,ha.ev hx,ha.ev hy,Instr.sliceAt,Instr.slice,Instr.sliceBounds,Instr.sliceBound,asIntOf,run_underlying ht,T.run_sizeOf,hlh,hc,h1,aO]
 ·simp [execOp,ha.ev hx,ha.ev hy,Instr.sliceAt,Instr.slice,Instr.sliceBounds,Instr.sliceBound,asIntOf,run_underlying ht,T.run_sizeOf,hlh,hc,h1,aO]
theorem o_appendIn {A: Option Addr} {k q c' j e': Nat} {cs cs': Array Value} (ht: P.underlying t=some (.slice e)) (T: Ty P e de size bytes z) (hS: Step w0 H0 L0 w H L) (hj: L[j]? =some (some b,.cells cs e' (0,0))) (ha: Has D a N m) (hx: ev m x=some (.slice (some ⟨b,0,none⟩) k c)) (hy: ev m y=some (.slice A q c')) (hA: 0 < q->A=some ⟨b,o,none⟩)
  (hkq: k+q<=c) (hfit: c * size<=cs.size) (ho: 0 < q->o+q * size<=cs.size) (h1: ∀ u ∈(cs.toList.drop o).take (q * size),u.oneCell'=true) (hcs: cs'.toList=cs.toList.take (k * size)++(cs.toList.drop o).take (q * size)++cs.toList.drop ((k+q) * size)) (hd: Nat.blt d N=true)
  (kk: ∀ a' w',Step w0 H0 L0 w' H (L.set j (some b,.cells cs' e' (0,0)))->Has D a' N ((d,.slice (some ⟨b,0,none⟩) (k+q) c)::m)->K a' w') :
  Oper.wp P ⟨some d,.call { callee:=.builtin .append,args:= #[x,y],argTypes:= #[t,t] },ty,pos,aft,g⟩ a w K Q:=by
 obtain⟨vs,hvs⟩: ∃ vs,vs=(cs.toList.drop o).take (q * size):=⟨_,rfl⟩;obtain⟨inf,hinf,hz,hsz,hby⟩:=T.info;have hcell:=hS.inv.at_ j hj;have hkq2:(k+q) * size<=c * size:=Nat.mul_le_mul_right _ hkq;rw [Nat.add_mul] at hkq2
 by_cases hq: q=0
 ·subst hq;have hload: ∀ x: Option Addr,(Builtin.firstCells size 0 (.slice x 0 c')).run P w=.ok #[] w:=by
   intro x
   cases x <;> simp [Builtin.firstCells,loadCells,loadCellsFrom]
  have hs': cs'=cs:=by
   apply Array.toList_inj.1
   rw [hcs];simp
  subst hs';refine aM (w':=w) (v:=.slice (some ⟨b,0,none⟩) k c) ?_ ha hd (fun a' h=>kk a' w ?_ h)
  ·have hkc: k<=c:=by omega
   simp [execOp,resolve,invoke,builtin,ha.ev hx,ha.ev hy,Builtin.append_,run_underlying ht,sizeOf,typeInfo,hinf,hsz,Builtin.lenOf,hload,hkc,storeCells]
  ·have:=hS.putObj j hj (.cells cs' e' (0,0));have he: L.set j (some b,.cells cs' e' (0,0))=L:=by
    apply List.ext_getElem?
    intro r;rw [List.getElem?_set]
    split
    ·rename_i e1
     subst e1;rw [hj,if_pos (List.getElem?_eq_some_iff.1 hj).1]
    ·rfl
   rw [he];exact hS
 ·have hq0: 0 < q:=by omega
  obtain rfl:=hA hq0;have hol:=ho hq0;have hvl: vs.length=q * size:=by
   rw [hvs,List.length_take,List.length_drop,Array.length_toList];omega
  have hload:(Builtin.firstCells size q (.slice (some ⟨b,o,none⟩) q c')).run P w=.ok vs.toArray w:=by
   have hl:=run_loadCells_list (P:=P) w ⟨b,o,none⟩ vs (fun r u hr=>by
    rw [aO];simp only [World.cell?,hcell];rw [hvs,List.getElem?_take] at hr
    split at hr
    ·rw [List.getElem?_drop] at hr;simpa using hr
    ·cases hr)
   rw [hvl] at hl;simpa [Builtin.firstCells] using hl
  have hrun:=run_storeCells_at (P:=P) b (k * size) e' vs 0 cs w hcell (by rw [hvl];omega) (by rw [hvs];exact h1);have hstore:(storeCells ((⟨b,0,none⟩: Addr).add (k * size)) vs).run P w=.ok () (w.setRow b cs'):=by
   rw [aO,Nat.zero_add,hrun]
   congr 2
   apply Array.toList_inj.1
   rw [hcs,Nat.add_zero,hvl,<- hvs,Nat.add_mul]
  refine aM (w':=w.setRow b cs') (v:=.slice (some ⟨b,0,none⟩) (k+q) c) ?_ ha hd (fun a' h=>kk a' _ (hS.setRow j hj cs') h);simp [execOp,resolve,invoke,builtin,ha.ev hx,ha.ev hy,Builtin.append_,run_underlying ht,sizeOf,typeInfo,hinf,hsz,Builtin.lenOf,hload,hkq,hstore]
theorem o_clear {j e': Nat} {cs cs': Array Value} (ht: P.underlying t=some (.slice e)) (T: Ty P e de size bytes z) (hzs: z.cells.size=size) (hS: Step w0 H0 L0 w H L) (hj: L[j]? =some (some b,.cells cs e' (0,0))) (ha: Has D a N m) (hx: ev m x=some (.slice (some ⟨b,o,none⟩) n c))
  (hn: 0 < n) (hfit: o+n * size<=cs.size) (h1: ∀ u ∈ zcells z n,u.oneCell'=true) (hcs: cs'.toList=cs.toList.take o++zcells z n++cs.toList.drop (o+n * size))
  (kk: ∀ a' w',Step w0 H0 L0 w' H (L.set j (some b,.cells cs' e' (0,0)))->Has D a' N m->K a' w') :
  Oper.wp P ⟨none,.call { callee:=.builtin .clear,args:= #[x],argTypes:= #[t] },ty,pos,aft,g⟩ a w K Q:=by
 have hcell:=hS.inv.at_ j hj;have hzl:(zcells z n).length=n * size:=by rw [aU,hzs]
 have hrun:=run_storeCells_at (P:=P) b o e' (zcells z n) 0 cs w hcell (by rw [hzl];omega) h1;have hstore:(storeCells ⟨b,o,none⟩ (Builtin.zeroCells z.cells n).toList).run P w=.ok () (w.setRow b cs'):=by
  have:(Builtin.zeroCells z.cells n).toList=zcells z n:=rfl;rw [this,hrun]
  congr 2
  apply Array.toList_inj.1
  rw [hcs,Nat.add_zero,hzl]
 obtain⟨n',rfl⟩: ∃ n',n=n'+1:=⟨n - 1,by omega⟩;have hr:(execOp a.eval ⟨none,.call { callee:=.builtin .clear,args:= #[x],argTypes:= #[t] },ty,pos,aft,g⟩).run P w=.ok (.value (.tuple #[])) (w.setRow b cs'):=by
  simp [execOp,resolve,invoke,builtin,ha.ev hx,Builtin.clear_,run_underlying ht,T.run_zero,hstore]
 unfold Oper.wp;rw [hr];exact kk _ _ (hS.setRow j hj cs') (ha.put_none _)
end
theorem row_open {A: Option Addr} {n c e size: Nat} {en: Ent} {xs: List Value} (h: Row (.slice A n c) en e size n xs) (hn: 0 < n): ∃(b: Nat) (cur: Array Value),A=some ⟨b,0,none⟩/\en=(some b,.cells cur e (0,0))/\n<=c/\c<=maxLen/\cur.size=c * size/\cur.toList.take (n * size)=xs:=by
 rcases h.2 with ⟨_,h2,_⟩ |⟨b,cap,cur,h1,h2,h3,h4,h5,h6⟩
 ·omega
 ·injection h1 with e1 _ e2
  subst e1 e2;exact⟨b,cur,rfl,h2,h3,h4,h5,h6⟩
theorem sub_mem {l: List Value} {o k n: Nat} (h: o+k<=n) {u: Value} (hu: u ∈(l.drop o).take k): u ∈ l.take n:=by
 obtain⟨r,hr⟩:=List.getElem?_of_mem hu;rw [List.getElem?_take] at hr
 split at hr
 ·rw [List.getElem?_drop] at hr;exact List.mem_of_getElem? (i:=o+r) (by rw [List.getElem?_take,if_pos j0];exact hr)
 ·cases hr
theorem del_cells {cur zs rest: List Value} {p o t q r: Nat} (h: o+q=t) (hp: p<=o) (ht: t<=cur.length) (hr: r=p+q):((cur.take p++(cur.drop o).take q++cur.drop r).take r++zs++rest).take r=(cur.take t).take p++(cur.take t).drop o:=by
 have h1:(cur.take p++(cur.drop o).take q).length=r:=by
  rw [List.length_append,List.length_take,List.length_take,List.length_drop];omega
 have h2:(cur.take p++(cur.drop o).take q++cur.drop r).take r=cur.take p++(cur.drop o).take q:=List.take_left' h1;rw [h2,List.append_assoc,List.take_left' h1,List.take_take,Nat.min_eq_left j0,List.drop_take,show t - o=q by omega]
theorem zcells_one_wd (k: Nat): ∀ u ∈ zcells (.agg #[.int .i64 0,.int .i64 0,.string ⟨#[]⟩,.bool false]) k,u.oneCell'=true:=by
 rw [zcells_wd];exact aT Wd.one' _
theorem del_wd {xs: List Wd} {i: Nat}:(gfl Wd.cells xs).take (i * 4)++(gfl Wd.cells xs).drop ((i+1) * 4)=gfl Wd.cells (xs.eraseIdx i):=by
 rw [du Wd.len,eg Wd.len,<- aF,List.eraseIdx_eq_take_drop_succ]
end Go.Vk
namespace Go.Vk.Tryz
open Go.RowKit
theorem c_DeleteW {w0: World} {H: PHeap} {A: Option Addr} {n c i: Nat} {iv jv: Int} {en: Ent} {xs: List Wd} (hI: Inv w0 H [en]) (hR: Row (.slice A n c) en 35 4 n (gfl Wd.cells xs)) (hi: i < n) (hiv: iv=(i: Nat)) (hjv: jv=iv+1): Calls prog 46 #[.slice A n c,.int .i64 iv,.int .i64 jv] w0 (fun e w'=> ∃ en',e=.returned (.slice A (n - 1) c)/\Row (.slice A (n - 1) c) en' 35 4 (n - 1) (gfl Wd.cells (xs.eraseIdx i))/\Step w0 H [en] w' H [en']):=by
 obtain⟨b,cur,rfl,rfl,ad,ac,am,a6⟩:=row_open hR j0;have F:=Step.refl hI;have a9: ∀ u ∈ gfl Wd.cells xs,u.oneCell'=true:=aT Wd.one' _;have au: maxLen=maxLen:=rfl;refine enter [(.slice (some ⟨b,0,none⟩) n c),(iV iv),(iV jv)] func46 J ntmps46 J fun a C=>?_;refine wp_seq (ab (Ls J C fun a C=>?_));refine wpList_nil (aa (wp_seq (ab (Lm J C fun a C=>?_))));refine Lm J C fun a C=>?_;refine Lm J C fun a C=>?_;refine Lm J C fun a C=>?_;refine lin J (aI T37.und C J J fun a C=>?_);refine lin J (o_slice3 (l:=i) (h:=i+1) (q:=n) T37.und T35 C J J J J j0 j0 J j0 j0 j0 j0 J fun a C=>?_);refine wpList_nil (aa (wp_seq (wp_seq (ab (Lm J C fun a C=>?_)))));refine Lm J C fun a C=>?_;refine lin J (bn (i:=iv) (j:=jv) C J J J fun a C=>?_);refine wpList_nil (aa (an (t:=16) C J (fun h1 C=>?_) (fun h1 C=>?_)))
 ·refine ap C J (wp_seq (ab (Lm J C fun a C=>?_)));refine Ls J C fun a C=>?_;refine wpList_nil (aa (wp_ret (ai (ret1 J C J ?_))))
  exfalso
  omega
 ·refine ah C J (wp_skip (aa (wp_seq (ab (Lm J C fun a C=>?_)))));refine lin J (aI T37.und C J J fun a C=>?_);refine Ls J C fun a C=>?_;refine wpList_nil (aa (wp_seq ?_));have al:=F;refine As.c_draw_head (ini:=(As.il [])) (sup:=(As.sl [])) (als:= []) (s0:=⟨H,fun _=>none⟩) (L:= [(some b,.cells cur 35 (0,0))]) (N:=33) (E:= [(0,(.slice (some ⟨b,0,none⟩) n c)),(1,(iV iv)),(2,(iV jv)),(7,(iV ((n: Nat): Int)))]) 6 [fun _ v=>v=(.slice (some ⟨b,0,none⟩) n c),fun _ v=>v=(iV iv),fun _ v=>v=(.slice (some ⟨b,0,none⟩) i c),fun _ v=>v=(.slice (some ⟨b,0,none⟩) n c),fun _ v=>v=(iV jv),fun _ v=>v=(.slice (some ⟨b,if c=i+1 then 0 else 0+(i+1) * 4,none⟩) (n - (i+1)) (c - (i+1)))] mixed J J J (As.Monos.cons (fun _ _ _ _ h=>h) (As.Monos.cons (fun _ _ _ _ h=>h) (As.Monos.cons (fun _ _ _ _ h=>h) (As.Monos.cons (fun _ _ _ _ h=>h) (As.Monos.cons (fun _ _ _ _ h=>h) (As.Monos.cons (fun _ _ _ _ h=>h) (As.Monos.nil))))))) (fun _=>rfl) F (C.pk J) (As.QuietsI.cons ?_ (As.QuietsI.cons ?_ (As.QuietsI.cons ?_ (As.QuietsI.cons ?_ (As.QuietsI.cons ?_ (As.QuietsI.cons ?_ (As.QuietsI.nil))))))) (fun ak a w ag X F C a1=>?_)
  ·refine As.Qx J fun a w I G Z Y F C T X=>?_;have O:=F;refine id (aj C J J fun a C=>?_);exact As.qdone (s:=⟨I,G⟩) (Le.refl _) C O J
  ·refine As.Qx J fun a w I G Z Y F C T X=>?_;have O:=F;refine id (aj C J J fun a C=>?_);exact As.qdone (s:=⟨I,G⟩) (Le.refl _) C O J
  ·refine As.Qx J fun a w I G Z Y F C T X=>?_;obtain⟨_,C,rfl⟩:=T.g C 0 J;obtain⟨_,C,rfl⟩:=T.g C 1 J;have O:=F;refine id (ej (h:=i) T37.und T35 C J J j0 j0 J fun a C=>?_);exact As.qdone (s:=⟨I,G⟩) (Le.refl _) C O J
  ·refine As.Qx J fun a w I G Z Y F C T X=>?_;have O:=F;refine id (aj C J J fun a C=>?_);exact As.qdone (s:=⟨I,G⟩) (Le.refl _) C O J
  ·refine As.Qx J fun a w I G Z Y F C T X=>?_;have O:=F;refine id (aj C J J fun a C=>?_);exact As.qdone (s:=⟨I,G⟩) (Le.refl _) C O J
  ·refine As.Qx J fun a w I G Z Y F C T X=>?_;obtain⟨_,C,rfl⟩:=T.g C 3 J;obtain⟨_,C,rfl⟩:=T.g C 4 J;have O:=F;refine id (o_sliceL (l:=i+1) T37.und T35 C J J j0 j0 j0 J fun a C=>?_);exact As.qdone (s:=⟨I,G⟩) (Le.refl _) C O J
  obtain⟨a7,G⟩:=ag;have aq: Le H a7:=X.le;dsimp only at a1 F;obtain⟨_,a3,rfl⟩:=a1 2 _ _ J J;have C:=C.add (a3 _ J);obtain⟨_,a3,rfl⟩:=a1 5 _ _ J J;have C:=C.add (a3 _ J);refine any1 (i:=6) j1 J J (o_appendIn (o:=0+(i+1) * 4) (k:=i) (q:=n - (i+1)) (c':=c - (i+1)) (cs:=cur) (cs':=(cur.toList.take (i * 4)++(cur.toList.drop (0+(i+1) * 4)).take ((n - (i+1)) * 4)++cur.toList.drop ((i+(n - (i+1))) * 4)).toArray) T37.und T35 F (j:=0) J C J J (fun ae=>by rw [if_neg j0]) j0 j0 (fun ae=>by omega) (fun u hu=>a9 u (a6 ▸ sub_mem j0 hu)) j3 J fun a w F C=>?_);refine any1 (i:=7) j1 J J (aH C J J fun a C=>?_);refine any0 j1 ?_;refine aa (wp_seq (ab (Lm J C fun a C=>?_)));refine Lm J C fun a C=>?_;refine lin J (aI T37.und C J J fun a C=>?_);refine Lm J C fun a C=>?_;refine lin J (o_slice2 (l:=(i+(n - (i+1)))) (h:=n) T37.und T35 C J J J J J j0 j0 j0 J fun a C=>?_);obtain⟨V,a0⟩: ∃ a8,a8=(cur.toList.take (i * 4)++(cur.toList.drop (0+(i+1) * 4)).take ((n - (i+1)) * 4)++cur.toList.drop ((i+(n - (i+1))) * 4)).toArray:=⟨_,rfl⟩;rw [<- a0] at F;have ao: V.size=cur.size:=by
   have a2: cur.toList.length=cur.size:=Array.length_toList;rw [a0];simp only [List.size_toArray,List.length_append,List.length_take,List.length_drop,a2];omega
  refine lin J (o_clear (n:=(n - (i+(n - (i+1))))) (cs:=V) (cs':=(V.toList.take (0+(i+(n - (i+1))) * 4)++zcells (.agg #[(iV 0),(iV 0),(.string ⟨#[]⟩),(.bool false)]) (n - (i+(n - (i+1))))++V.toList.drop (0+(i+(n - (i+1))) * 4+(n - (i+(n - (i+1)))) * 4)).toArray) T37.und T35 J F (j:=0) J C J j0 j0 (zcells_one_wd _) j3 fun a w F C=>?_);refine wpList_nil (aa (wp_seq (ab (Lm J C fun a C=>?_))));refine Ls J C fun a C=>?_;refine wpList_nil (aa (wp_ret (ret1 J C J ?_)));have a5: i+(n - (i+1))=n - 1:=by omega
  rw [a5];refine⟨_,rfl,⟨?_,.inr ⟨b,c,_,rfl,rfl,by omega,ac,?_,?_⟩⟩,F.plain⟩
  ·have ar: n<=c:=ad;have af:(gfl Wd.cells xs).length=n * 4:=hR.1;rw [<- del_wd,List.length_append,List.length_take,List.length_drop,af];omega
  ·have a2: V.toList.length=V.size:=Array.length_toList;simp only [List.size_toArray,List.length_append,List.length_take,List.length_drop,a2,aU];rw [show (Value.cells (.agg #[(iV 0),(iV 0),(.string ⟨#[]⟩),(.bool false)])).size=4 from rfl];omega
  ·have a4:=del_cells (cur:=cur.toList) (zs:=zcells (.agg #[(iV 0),(iV 0),(.string ⟨#[]⟩),(.bool false)]) (n - (i+(n - (i+1))))) (rest:=V.toList.drop (0+(i+(n - (i+1))) * 4+(n - (i+(n - (i+1)))) * 4)) (p:=i * 4) (o:=0+(i+1) * 4) (t:=n * 4) (q:=(n - (i+1)) * 4) (r:=(i+(n - (i+1))) * 4) j0 j0 (by rw [Array.length_toList];omega) j0;rw [a6] at a4;rw [<- del_wd];rw [show (i+1) * 4=0+(i+1) * 4 by omega,<- a4,a0,a5,Nat.zero_add]
end Go.Vk.Tryz
namespace Go.Vk
open Go.RowKit
section
variable {P: Program} {K: Act->World->Prop} {Q: Exit->Act->World->Prop} {D: List Deferred} {a: Act} {w: World} {N: Nat} {m: Env} {d: Nat} {ty: TypeId} {pos: String} {aft: Array Edge} {g: Option (Nat × Bool)} {x y: Operand} {tx ty': TypeId} {i j: Int}
theorem o_rem (ha: Has D a N m) (hx: ev m x=some (.int .i64 i)) (hy: ev m y=some (.int .i64 j)) (hj: ¬ j=0) (hd: Nat.blt d N=true) (k: ∀ a',Has D a' N ((d,.int .i64 (i.tmod j))::m)->K a' w) :
  Oper.wp P ⟨some d,.binOp .rem tx x y ty',ty,pos,aft,g⟩ a w K Q:=
 aM (by simp [execOp,ha.ev hx,ha.ev hy,eqGuard,binOp,Op.intDiv,hj]) ha hd k
end
def ixZ (k n: Int): Int:=(k.tmod n+n).tmod n
theorem tmod_bd {k n: Int} (hn: 0 < n): -n < k.tmod n/\k.tmod n < n:=by
 refine⟨?_,Int.tmod_lt_of_pos k hn⟩;have h1:=Int.tmod_lt_of_pos (-k) hn;rw [Int.neg_tmod] at h1;omega
theorem cI {k n: Int} {m: Nat} (hn: n=(m: Int)) (h: 0 < m): ∃ i: Nat,ixZ k n=(i: Int)/\i < m:=by
 have h1:=tmod_bd (k:=k) (n:=n) j0;have h2:=Int.tmod_nonneg n (show 0<=k.tmod n+n by omega);have h3:=Int.tmod_lt_of_pos (k.tmod n+n) (show 0 < n by omega);exact⟨(ixZ k n).toNat,by unfold ixZ;omega,by unfold ixZ;omega⟩
theorem eK {tk: List Bool} {size q: Nat} (hq: q+size<=tk.length) (hfree: ∀ j,q<=j->j < q+size->tk[j]? =some false): ∀(k a: Nat),tk.length+1<=k+a->a<=q->∃ p: Nat,findP tk size k a=p/\p<=q
 | 0,a,hk,ha=>by omega
 | k+1,a,hk,ha=>by
  rw [findP,if_neg j0]
  cases hf:((tk.drop a).take size).findIdx? id with
  | none=>exact ⟨a,rfl,ha⟩
  | some i =>
   obtain⟨hlt,ht,_⟩:=List.findIdx?_eq_some_iff_getElem.1 hf;rw [List.length_take,List.length_drop] at hlt;have h1: tk[a+i]? =some true:=by
    rw [List.getElem_take,List.getElem_drop] at ht;rw [List.getElem?_eq_getElem j0];exact congrArg some ht
   have h2: a+i < q:=by
    refine Classical.byContradiction fun hc=>?_;rw [hfree (a+i) j0 j0] at h1
    cases h1
   exact eK hq hfree k (a+i+1) j0 j0
def winB (tk: List Bool) (a size: Nat): List Bool:=(tk.drop a).take size
theorem fQ {tk: List Bool} {a size: Nat} (h: a+size<=tk.length):(winB tk a size).contains true=false↔∀ j,a<=j->j < a+size->tk[j]? =some false:=by
 unfold winB
 constructor
 ·intro hc j h1 h2;have h3: j < tk.length:=by omega
  rw [List.getElem?_eq_getElem h3]
  cases hb: tk[j] with
  | false=>rfl
  | true =>
   have: true ∈(tk.drop a).take size:=by
    refine List.mem_of_getElem? (i:=j - a) ?_;rw [List.getElem?_take,if_pos j0,List.getElem?_drop,show a+(j - a)=j by omega,List.getElem?_eq_getElem h3,hb]
   rw [List.contains_iff_mem.2 this] at hc
   cases hc
 ·intro hf;rw [Bool.eq_false_iff];intro hc;have hm:=List.contains_iff_mem.1 hc;obtain⟨j,hj⟩:=List.getElem?_of_mem hm;rw [List.getElem?_take] at hj
  split at hj
  ·rw [List.getElem?_drop,hf (a+j) j0 j0] at hj
   cases hj
  ·cases hj
def GP (tk: List Bool) (size a: Nat) (gap: Int): Prop:=
 (gap= -1/\∀ q,q < a->q+size<=tk.length->(winB tk q size).contains true=true)\/∃ q: Nat,gap=q/\q+size<=tk.length/\(winB tk q size).contains true=false/\∀ r,r < q->(winB tk r size).contains true=true
theorem GP.hit {tk: List Bool} {size a: Nat} {gap: Int} (h: GP tk size a gap) (hg: gap < 0) (ha: a+size<=tk.length) (hw:(winB tk a size).contains true=false): GP tk size (a+1) a:=by
 rcases h with ⟨_,h⟩ |⟨q,h,_⟩
 ·exact .inr ⟨a,rfl,ha,hw,fun r hr=>h r hr j0⟩
 ·omega
theorem GP.done {tk: List Bool} {size a: Nat} {gap: Int} (hs: 1<=size) (h: GP tk size a gap) (hd: tk.length < a+size\/0<=gap): gap=findS tk size:=by
 unfold findS
 rcases h with ⟨h0,h⟩ |⟨q,h0,h1,h2,h3⟩
 ·rcases cZ tk size (tk.length+1) 0 with h4 |⟨p,h4,_,h5,h6⟩
  ·rw [h4,h0]
  ·have h7:=ga h5 h6;have h8:=h p j0 h5;rw [(fQ h5).2 h7] at h8
   cases h8
 ·obtain⟨p,h4,h5⟩:=eK h1 ((fQ h1).1 h2) (tk.length+1) 0 j0 j0;rw [h4,h0]
  by_cases e: p=q
  ·rw [e]
  ·exfalso
   rcases cZ tk size (tk.length+1) 0 with h6 |⟨p',h6,_,h7,h8⟩
   ·omega
   ·have e2: p'=p:=by omega
    subst e2;have h9:=h3 p' j0;rw [(fQ h7).2 (ga h7 h8)] at h9
    cases h9
structure SP (h: HS) (held: List Wd) (many: List Int): Prop where
 len: held.length=many.length
 at_: ∀(i: Nat) (w: Wd),held[i]? =some w->∃(s: ByteArray) (l: List Wd),w.tag=5/\0<=w.n/\w.s=⟨#[]⟩/\w.one=true/\h.S[w.n.toNat]? =some (some (.fn s l))/\many[i]? =some ((l.length+1: Nat): Int)
 dis: ∀(i j: Nat) (w v: Wd),held[i]? =some w->held[j]? =some v->w.n.toNat=v.n.toNat->i=j
theorem SP.new (n: Nat): SP (HS.new n) [] []:=⟨rfl,fun i w h=>by simp at h,fun i j w v h=>by simp at h⟩
theorem cX {α: Type} {l: List α} {i j: Nat} {x: α} (h:(l.eraseIdx i)[j]? =some x): ∃ k,l[k]? =some x/\k≠i/\k=if j < i then j else j+1:=by
 rw [List.getElem?_eraseIdx] at h
 split at h
 ·rename_i h1;exact⟨j,h,by omega,by rw [if_pos h1]⟩
 ·rename_i h1;exact⟨j+1,h,by omega,by rw [if_neg h1]⟩
theorem SP.free {h: HS} {held: List Wd} {many: List Int} (hp: SP h held many) (hO: h.Ok) {i: Nat} {w: Wd} (hw: held[i]? =some w): ∃ l: List Wd,h.free w=(h.clear w.n.toNat,(l,0))/\many[i]? =some ((l.length+1: Nat): Int)/\0<=w.n/\w.n.toNat+(l.length+1)<=h.S.length/\(h.clear w.n.toNat).tk=fillP h.tk w.n.toNat (l.length+1) false/\(h.clear w.n.toNat).u=h.u - ((l.length+1: Nat): Int)/\(h.clear w.n.toNat).S.length=h.S.length/\l.length<=64/\SP (h.clear w.n.toNat) (held.eraseIdx i) (many.eraseIdx i):=by
 obtain⟨s,l,h1,h2,h3,h4,h5,h6⟩:=hp.at_ i w hw;have hl:=(List.getElem?_eq_some_iff.1 h5).1;have hb:=hO.blk _ _ h5;have hat: atS h.S w=some (.fn s l):=(bJ h2 j0 h3 h5).trans (if_pos h1);have hg: h.S.getD w.n.toNat none=some (.fn s l):=by rw [List.getD_eq_getElem?_getD,h5];rfl
 have hc: h.clear w.n.toNat=⟨h.S.set w.n.toNat none,fillP h.tk w.n.toNat (l.length+1) false,h.u - ((l.length+1: Nat): Int)⟩:=by
  unfold HS.clear;rw [hg];rfl
 refine⟨l,?_,h6,h2,hb.2,by rw [hc],by rw [hc],by rw [hc];exact List.length_set,hb.1,?_,?_,?_⟩
 ·unfold HS.free;rw [hat];simp [PB.tag,PB.words,h4]
 ·have hi:=(List.getElem?_eq_some_iff.1 hw).1;rw [List.length_eraseIdx,List.length_eraseIdx,hp.len]
 ·intro j v hv;obtain⟨k,hk,hne,he⟩:=cX hv;obtain⟨s',l',g1,g2,g3,g4,g5,g6⟩:=hp.at_ k v hk;refine⟨s',l',g1,g2,g3,g4,?_,?_⟩
  ·rw [hc]
   show (h.S.set _ _)[_]? =_
   rw [List.getElem?_set_ne]
   ·exact g5
   ·intro e;exact hne (hp.dis k i v w hk hw e.symm)
  ·rw [List.getElem?_eraseIdx]
   split
   ·rename_i h7;rw [if_pos h7] at he;subst he;exact g6
   ·rename_i h7;rw [if_neg h7] at he;subst he;exact g6
 ·intro j j' v v' hv hv' e;obtain⟨k,hk,hne,he⟩:=cX hv;obtain⟨k',hk',hne',he'⟩:=cX hv';have:=hp.dis k k' v v' hk hk' e;subst this
  split at he <;> split at he' <;> omega
def argsL (m: Nat): List Wd:=(List.range m).map fun(j: Nat)=>⟨1,(j: Int),⟨#[]⟩,false⟩
theorem cQ (m: Nat):(argsL m).length=m:=by unfold argsL;simp
theorem argsL_at {m j: Nat} (h: j < m):(argsL m)[j]? =some ⟨1,(j: Int),⟨#[]⟩,false⟩:=by
 unfold argsL;rw [List.getElem?_map,List.getElem?_range h];rfl
theorem argsL_all (S: PS) (m: Nat) (h: m<=1000): allS S (argsL m)=true:=by
 unfold allS;rw [List.all_eq_true];intro w hw;obtain⟨j,hj⟩:=List.getElem?_of_mem hw;have hl:=(List.getElem?_eq_some_iff.1 hj).1;rw [cQ] at hl;rw [argsL_at hl] at hj;obtain rfl:=Option.some.inj hj;unfold wordS;rw [if_pos J];simp;omega
theorem fun_place {h: HS} {s: ByteArray} (hs: nmB s=true) {m: Nat} (h1: 1<=m) (h2: m<=16): h.fun_ s (argsL m)=((h.place (.fn s (argsL m))).1,refW 5 (findS h.tk (m+1))):=by
 unfold HS.fun_;rw [if_neg (by rw [hs];simp),if_neg (by rw [argsL_all _ _ j0];simp),if_neg (by rw [cQ];omega)];dsimp only;rw [bz];simp only [PB.size,cQ]
theorem SP.fun_ {h: HS} {held: List Wd} {many: List Int} (hp: SP h held many) (hO: h.Ok) {s: ByteArray} (hs: nmB s=true) {m: Nat} (h1: 1<=m) (h2: m<=16) (hr: ¬ findS h.tk (m+1) < 0): ∃(a: Nat) (h': HS),findS h.tk (m+1)=(a: Int)/\a+(m+1)<=h.tk.length/\h.fun_ s (argsL m)=(h',(⟨5,(a: Int),⟨#[]⟩,true⟩,0))/\h'.tk=fillP h.tk a (m+1) true/\h'.u=h.u+((m+1: Nat): Int)/\h'.S.length=h.S.length/\SP h' (held++ [⟨5,(a: Int),⟨#[]⟩,true⟩]) (many++ [((m+1: Nat): Int)]):=by
 rcases bK h.tk (m+1) with h3 |⟨a,h3,h4,h5⟩
 ·omega
 ·have hsz:(PB.fn s (argsL m)).size=m+1:=by simp only [PB.size,cQ]
  have hpl:(h.place (.fn s (argsL m))).1=⟨h.S.set a (some (.fn s (argsL m))),fillP h.tk a (m+1) true,h.u+((m+1: Nat): Int)⟩:=by
   unfold HS.place;dsimp only;rw [hsz,if_neg hr,h3];rfl
  have hla:=hO.ltk;refine⟨a,(h.place (.fn s (argsL m))).1,h3,h4,?_,by rw [hpl],by rw [hpl],by rw [hpl];exact List.length_set,?_,?_,?_⟩
  ·rw [fun_place hs h1 h2];unfold refW;rw [if_neg hr,h3]
  ·simp [hp.len]
  ·intro i w hw
   rcases Nat.lt_or_ge i held.length with hi | hi
   ·rw [List.getElem?_append_left hi] at hw;obtain⟨s',l',g1,g2,g3,g4,g5,g6⟩:=hp.at_ i w hw;exact⟨s',l',g1,g2,g3,g4,cE hO g5,by rw [List.getElem?_append_left (by rw [<- hp.len];exact hi)];exact g6⟩
   ·rw [List.getElem?_append_right hi] at hw;have hi2: i=held.length:=by
     have:=(List.getElem?_eq_some_iff.1 hw).1;simp at this;omega
    subst hi2;rw [Nat.sub_self] at hw;obtain rfl: _=w:=Option.some.inj hw;refine⟨s,argsL m,rfl,by simp,rfl,rfl,?_,?_⟩
    ·rw [hpl]
     show (h.S.set a _)[(a: Int).toNat]? =_
     rw [Int.toNat_natCast,List.getElem?_set,if_pos J,if_pos j0]
    ·rw [List.getElem?_append_right (by rw [hp.len];exact Nat.le_refl _),hp.len,Nat.sub_self,cQ];rfl
  ·have hnew: ∀(i: Nat) (w: Wd),held[i]? =some w->w.n.toNat≠a:=by
    intro i w hw e;obtain⟨s',l',g1,g2,g3,g4,g5,g6⟩:=hp.at_ i w hw;have h6:=(hO.tkn a).2 ⟨w.n.toNat,_,g5,by omega,by have:=(hO.blk _ _ g5).1.size;omega⟩;rw [h5 a (Nat.le_refl _) j0] at h6
    cases h6
   intro i j w v hw hv e
   rcases Nat.lt_or_ge i held.length with hi | hi <;> rcases Nat.lt_or_ge j held.length with hj | hj
   ·rw [List.getElem?_append_left hi] at hw;rw [List.getElem?_append_left hj] at hv;exact hp.dis i j w v hw hv e
   ·rw [List.getElem?_append_left hi] at hw;rw [List.getElem?_append_right hj] at hv;have: j - held.length=0:=by
     have:=(List.getElem?_eq_some_iff.1 hv).1;simp at this;omega
    rw [this] at hv;obtain rfl: _=v:=Option.some.inj hv;exact absurd e (by simpa using hnew i w hw)
   ·rw [List.getElem?_append_right hi] at hw;rw [List.getElem?_append_left hj] at hv;have: i - held.length=0:=by
     have:=(List.getElem?_eq_some_iff.1 hw).1;simp at this;omega
    rw [this] at hw;obtain rfl: _=w:=Option.some.inj hw;exact absurd e.symm (by simpa using hnew j v hv)
   ·have h6:=(List.getElem?_eq_some_iff.1 hw).1;have h7:=(List.getElem?_eq_some_iff.1 hv).1;simp at h6 h7;omega
end Go.Vk
namespace Go.Vk.Tryz
open Go.RowKit
theorem dI {w0: World} {H: PHeap} (hI: Inv w0 H []) {k n: Int} (hn: 0 < n/\n<=1000000): Calls prog 43 #[(iV k),(iV n)] w0 (Rs w0 H (iV (ixZ k n))):=by
 have C:=Step.refl hI;have F:=tmod_bd (k:=k) (n:=n) hn.1;refine enter [(iV k),(iV n)] func43 J ntmps43 J fun a q=>?_;refine wp_seq (ab (Ls J q fun a q=>?_));refine wpList_nil (aa (wp_seq (ab (Lm J q fun a q=>?_))));refine Lm J q fun a q=>?_;refine lin J (o_rem (i:=k) (j:=n) q J J j0 J fun a q=>?_);refine Lm J q fun a q=>?_;refine lin J (aL (i:=(Int.tmod k n)) (j:=n) q J J J j0 fun a q=>?_);refine Lm J q fun a q=>?_;refine lin J (o_rem (i:=((Int.tmod k n)+n)) (j:=n) q J J j0 J fun a q=>?_);refine Ls J q fun a q=>?_;refine wpList_nil (aa (wp_ret (ret1 J q J ?_)));refine⟨congrArg _ ?_,C.plain.drop_all⟩;rfl
end Go.Vk.Tryz
namespace Go.Vk
open Go.RowKit
def RV (v: Value): Option (DataW Value × List MemPlace):=some (.held v, [])
def AtF (D: DataW Value) (f: Int->Option Value): Prop:= ∀ q z,D.atKey (.int .i64 q) z=match f q with
 | some v=>.held v
 | none=>z
def MapV (P: Program) (k: TypeId) (en: Ent) (b n: Nat) (f: Int->Option Value): Prop:=
 ∃ o D,en=(some b,o)/\(∀ W: World,W.heap[b]? =some o->W.ownsMap P k RV b n D)/\Maps.IsMap D/\AtF D f
def RangeV (P: Program) (k: TypeId) (em er: Ent) (b r n: Nat) (f: Int->Option Value) (left: Int->Bool) (cnt: Nat): Prop:=
 ∃ o o' D lf,em=(some b,o)/\er=(some r,o')/\(∀ W: World,W.heap[b]? =some o->W.heap[r]? =some o'->W.ranges P k RV b r n D lf cnt)/\Maps.IsMap D/\AtF D f/\∀ q,lf (.int .i64 q)=left q
def putF (f: Int->Option Value) (q: Int) (v: Value): Int->Option Value:=fun x=>if x=q then some v else f x
def delF (f: Int->Option Value) (q: Int): Int->Option Value:=fun x=>if x=q then none else f x
theorem AtF.put {D: DataW Value} {f: Int->Option Value} (hD: Maps.IsMap D) (h: AtF D f) (q: Int) (v: Value): AtF (D.put (.int .i64 q) (.held v)) (putF f q v):=by
 intro x z;unfold putF
 by_cases hx: x=q
 ·subst hx;rw [Maps.atKey_put_same hD (by simp [WideAt.IsKeyLit]),if_pos J]
 ·rw [Maps.atKey_put_other (fun e=>hx (by injection e)),h,if_neg hx]
theorem AtF.del {D: DataW Value} {f: Int->Option Value} (h: AtF D f) (q: Int): AtF (D.del (.int .i64 q)) (delF f q):=by
 intro x z;unfold delF
 by_cases hx: x=q
 ·subst hx;rw [Maps.atKey_del_same,if_pos J]
 ·rw [Maps.atKey_del_other (fun e=>hx (by injection e)),h,if_neg hx]
theorem AtF.has {D: DataW Value} {f: Int->Option Value} (h: AtF D f) (q: Int): Maps.has D (.int .i64 q)=(f q).isSome:=by
 cases hf: f q with
 | none=>exact Maps.has_false_of_atKey fun z=>by rw [h,hf]
 | some v=>exact Maps.has_true_of_atKey fun z=>by rw [h,hf]
section
variable {P: Program} {K: Act->World->Prop} {Q: Exit->Act->World->Prop} {a: Act} {w: World} {N: Nat} {m: Env} {D: List Deferred} {d: Nat} {ty: TypeId} {pos: String} {aft: Array Edge} {g: Option (Nat × Bool)}
variable {w0: World} {H0 H: PHeap} {L0 L: List Ent}
theorem owns_any {k b n: Nat} {Dm: DataW Value} (h: w.ownsMap P k RV b n Dm): ∃ es clock,w.heap[b]? =some (.map es clock)/\∀ W: World,W.heap[b]? =some (.map es clock)->W.ownsMap P k RV b n Dm:=by
 obtain⟨es,clock,hb,F,hs,hD⟩:=h;exact⟨es,clock,hb,fun W hW=>⟨es,clock,hW,F,hs,hD⟩⟩
theorem RangeV.map {k b r n cnt: Nat} {f: Int->Option Value} {left: Int->Bool} {em er: Ent} (hI: Inv w H L) {i j: Nat} (hi: L[i]? =some em) (hj: L[j]? =some er) (h: RangeV P k em er b r n f left cnt): MapV P k em b n f:=by
 obtain⟨o,o',Dm,lf,rfl,rfl,hown,hmap,hat,hlf⟩:=h;have hb: w.heap[b]? =some o:=hI.at_ i hi;have hr: w.heap[r]? =some o':=hI.at_ j hj;have h1:=(hown w hb hr).owns;obtain⟨es,clock,hb2,hany⟩:=owns_any h1;rw [hb] at hb2;injection hb2 with hb2
 subst hb2;exact⟨_,_,rfl,hany,hmap,hat⟩
end
end Go.Vk
namespace Go.Vk
open Go.RowKit
section
variable {P: Program} {K: Act->World->Prop} {Q: Exit->Act->World->Prop} {D: List Deferred} {a: Act} {w: World} {N: Nat} {m: Env} {d: Nat} {ty: TypeId} {pos: String} {aft: Array Edge} {g: Option (Nat × Bool)} {w0: World} {H0 H: PHeap} {L0 L: List Ent}
end
def timesN (t: Tm) (v: Int): Nat:=(nds t).countP fun x=>decide (x.kind=1)&&decide (x.n=v)
def moreN (t: Tm) (v: Int): Bool:=decide (1 < timesN t v)
section
variable (vars: List Wd) (mo: Int->Bool)
mutual
def bldS: Tm->HS × List Int->(HS × List Int) × Option Wd
 | .mk k n s l,st =>
  if k=1 then (st,some (if mo n then shW (vars.getD n.toNat Wd.zero) else vars.getD n.toNat Wd.zero))
  else if k=2 then (st,some ⟨1,n,⟨#[]⟩,false⟩)
  else if k=3 then (st,some ⟨2,0,s,false⟩)
  else if k=4 then (st,some ⟨3,0,s,false⟩)
  else match bldL l st with
   |(st',none)=>(st',none)
   |(st',some ws) =>
    if (st'.1.place (if k=5 then .fn s ws else .vec ws)).2 < 0 then (st',none) else (((st'.1.place (if k=5 then .fn s ws else .vec ws)).1,st'.2++ [(st'.1.place (if k=5 then .fn s ws else .vec ws)).2]),some ⟨if k=5 then 5 else 6,(st'.1.place (if k=5 then .fn s ws else .vec ws)).2,⟨#[]⟩,true⟩)
def bldL: List Tm->HS × List Int->(HS × List Int) × Option (List Wd)
 | [],st=>(st,some [])
 | t::ts,st=>match bldS t st with
  |(st',none)=>(st',none)
  |(st',some w)=>match bldL ts st' with
   |(st'',none)=>(st'',none)
   |(st'',some ws)=>(st'',some (w::ws))
end
end
section
variable {vars: List Wd} {mo: Int->Bool} {l: List Tm} {k: Nat} {st0 st: HS × List Int} {ws: List Wd} {t: Tm} {w: Wd}
theorem eF {ts: List Tm}: bldL vars mo (t::ts) st=match bldS vars mo t st with
  |(st',none)=>(st',none)
  |(st',some w)=>match bldL vars mo ts st' with
   |(st'',none)=>(st'',none)
   |(st'',some ws)=>(st'',some (w::ws)):=by rw [bldL]
def BTo (vars: List Wd) (mo: Int->Bool) (l: List Tm) (st0: HS × List Int) (k: Nat) (st: HS × List Int) (ws: List Wd): Prop:=bldL vars mo l st0=((bldL vars mo (l.drop k) st).1,(bldL vars mo (l.drop k) st).2.map (ws++ ·))
theorem BTo.zero: BTo vars mo l st0 0 st0 []:=by
 unfold BTo;rw [List.drop_zero]
 cases h:(bldL vars mo l st0).2 <;> simp [<- h]
theorem BTo.step (h: BTo vars mo l st0 k st ws) (ht: l[k]? =some t) {w: Wd} (hw:(bldS vars mo t st).2=some w): BTo vars mo l st0 (k+1) (bldS vars mo t st).1 (ws++ [w]):=by
 unfold BTo at h ⊢;have h1: bldS vars mo t st=((bldS vars mo t st).1,some w):=by rw [<- hw]
 rw [h,bj ht,eF,h1];dsimp only;obtain⟨st2,o⟩:=bldL vars mo (l.drop (k+1)) (bldS vars mo t st).1
 cases o with
 | none=>rfl
 | some us=>simp
theorem BTo.fail (h: BTo vars mo l st0 k st ws) (ht: l[k]? =some t) (hw:(bldS vars mo t st).2=none): bldL vars mo l st0=((bldS vars mo t st).1,none):=by
 unfold BTo at h;have h1: bldS vars mo t st=((bldS vars mo t st).1,none):=by rw [<- hw]
 rw [h,bj ht,eF,h1];rfl
theorem BTo.done (h: BTo vars mo l st0 k st ws) (hk: l.length<=k): bldL vars mo l st0=(st,some ws):=by
 unfold BTo at h;rw [h,List.drop_of_length_le hk,bldL];simp
end
section
variable {vars: List Wd} {mo: Int->Bool} {k n: Int} {s: ByteArray} {l: List Tm} {st st': HS × List Int} {ws: List Wd}
end
def BOK (vars: List Wd) (mo: Int->Bool) (f: Int->Option Value) (t: Tm): Prop:= ∀ x ∈ nds t,(x.kind=1->(0<=x.n/\x.n < vars.length)/\f x.n=some (.bool (mo x.n)))/\x.l.length<=64
theorem BOK.sub {vars: List Wd} {mo: Int->Bool} {f: Int->Option Value} {t u: Tm} {j: Nat} (h: BOK vars mo f t) (hu: t.l[j]? =some u): BOK vars mo f u:=fun x hx=>h x (by rw [gC,ndsL_split hu];simp [hx])
def HS.build (h: HS) (t: Tm) (vars: List Wd): HS ×(Wd × Int):=
 if isTm t=false then (h,(Wd.zero,3)) else if allS h.S vars=false then (h,(Wd.zero,211)) else if (varsN [t]).any (fun v=>decide ((vars.length: Int)<=v)) then (h,(Wd.zero,1)) else
 match bldS vars (moreN t) t (h, []) with
 |(st,none)=>(st.2.foldl (fun g a=>g.clear a.toNat) st.1,(Wd.zero,210))
 |(st,some w)=>(st.1,(w,0))
end Go.Vk
namespace Go.Vk
open Go.RowKit
mutual
theorem isR_nds: ∀ t: Tm,isR t=true->∀ x ∈ nds t,isR x=true
 | .mk k n s l,h,x,hx=>by
  rw [nds] at hx
  rcases List.mem_cons.1 hx with rfl | hx
  ·exact h
  ·exact isR_ndsL l (fun u hu=>isR_sub h hu) x hx
theorem isR_ndsL: ∀ ts: List Tm,(∀ u ∈ ts,isR u=true)->∀ x ∈ ndsL ts,isR x=true
 | [],_,x,hx=>by cases hx
 | t::ts,h,x,hx=>by
  rw [ndsL] at hx
  rcases List.mem_append.1 hx with hx | hx
  ·exact isR_nds t (h t List.mem_cons_self) x hx
  ·exact isR_ndsL ts (fun u hu=>h u (List.mem_cons_of_mem _ hu)) x hx
end
theorem isTm_nodes {t: Tm} (h: isTm t=true): ∀ x ∈ nds t,nodeR x=true:=fun x hx=>fB (isR_nds t (by rw [<- isTm_isR];exact h) x hx)
section
variable {P: Program} {a: Act} {w w0: World} {H0 H: PHeap} {L0 L: List Ent} {N: Nat} {m: Env} {R: Ending->World->Prop}
theorem leaves_marks2 {fn: Func} {t t': Nat} {v v': Value} {tmps: Array Value} (hr: fn.results= #[.tmp t,.tmp t']) (hv: tmps[t]? =some v) (hv': tmps[t']? =some v'): ∀(rs: List Nat) (w: World) (L: List Ent),Step w0 H0 L0 w H (rs.map openBlk++L)->(∀ w',Step w0 H0 L0 w' H L->R (.returned (.tuple #[v,v'])) w')->LeavesInM Fence.wide 0 P fn tmps R (rs.map markOf) .returning w
 | [],w,L,hS,k=>⟨.tuple #[v,v'],by simp [results,hr,Array.getD_eq_getD_getElem?,hv,hv'],k w (by simpa using hS)⟩
 | r::rs,w,L,hS,k=>by
  have hb: w.heap[r]? =some (.deferred (some [])):=hS.inv.at_ 0 J;have hS':=(hS.putObj 0 (b:=r) J (.deferred none)).drop;exact⟨by simp,.inl ⟨r,w.putObj r (.deferred none),rfl,run_takeDeferred hb,leaves_marks2 hr hv hv' rs _ L hS' k⟩⟩
theorem retM2 {fn: Func} {t t': Nat} {v v': Value} {rs: List Nat} (hr: fn.results= #[.tmp t,.tmp t']) (hS: Step w0 H0 L0 w H (rs.map openBlk++L)) (ha: Has (rs.map markOf) a N m) (hv: lk m t=some v) (hv': lk m t'=some v') (k: ∀ w',Step w0 H0 L0 w' H L->R (.returned (.tuple #[v,v'])) w'): bodyPostM Fence.wide 0 P fn R .ret a w:=by
 show LeavesInM Fence.wide 0 P fn a.tmps R a.defers .returning w
 rw [ha.dfr];exact leaves_marks2 hr (ha.get t v hv) (ha.get t' v' hv') rs w L hS k
end
end Go.Vk
namespace Go.Vk
open Go.RowKit
structure MO (h: HS) (mk: List Int): Prop where
 ok: h.Ok
 at_: ∀ a ∈ mk,0<=a/\∃ b,h.S[a.toNat]? =some (some b)
 nd: mk.Nodup
theorem MO.nil {h: HS} (hO: h.Ok): MO h []:=⟨hO,(fun a ha=>by cases ha),List.nodup_nil⟩
theorem MO.place {h: HS} {mk: List Int} (hm: MO h mk) {b: PB} (hb: b.ok) (hp: ¬(h.place b).2 < 0): MO (h.place b).1 (mk++ [(h.place b).2]):=by
 have ho:=hm.ok.place hb;rw [bz] at hp ⊢
 rcases bK h.tk b.size with h1 |⟨p,h1,h2,h3⟩
 ·omega
 ·have hs:=hb.size;have hl:=hm.ok.ltk;have hS:(h.place b).1.S=h.S.set p (some b):=by
   unfold HS.place;dsimp only;rw [if_neg hp,h1];rfl
  have hnew: ∀(c: PB),h.S[p]?≠some (some c):=by
   intro c hc;have h4:=(hm.ok.tkn p).2 ⟨p,c,hc,Nat.le_refl _,by have:=(hm.ok.blk p c hc).1.size;omega⟩;rw [h3 p (Nat.le_refl _) j0] at h4
   cases h4
  rw [h1];refine⟨ho,fun a ha=>?_,?_⟩
  ·rcases List.mem_append.1 ha with ha | ha
   ·obtain⟨h4,c,h5⟩:=hm.at_ a ha;exact⟨h4,c,cE hm.ok h5⟩
   ·rw [List.mem_singleton.1 ha];exact⟨by omega,b,by rw [hS,Int.toNat_natCast,List.getElem?_set,if_pos J,if_pos j0]⟩
  ·rw [List.nodup_append];refine⟨hm.nd,by simp,fun a ha c hc e=>?_⟩;rw [List.mem_singleton.1 hc] at e;obtain⟨_,d,h5⟩:=hm.at_ a ha;rw [e,Int.toNat_natCast] at h5;exact hnew d h5
theorem MO.clear {h: HS} {a: Int} {mk: List Int} (hm: MO h (a::mk)): MO (h.clear a.toNat) mk:=by
 obtain⟨h0,b,hb⟩:=hm.at_ a List.mem_cons_self;have hnd:=List.nodup_cons.1 hm.nd;have hg: h.S.getD a.toNat none=some b:=by rw [List.getD_eq_getElem?_getD,hb];rfl
 refine⟨hm.ok.clear _,fun c hc=>?_,hnd.2⟩;obtain⟨h1,d,hd⟩:=hm.at_ c (List.mem_cons_of_mem _ hc);refine⟨h1,d,?_⟩;unfold HS.clear;rw [hg]
 show (h.S.set _ _)[_]? =_
 rw [List.getElem?_set_ne]
 ·exact hd
 ·intro e;have: a=c:=by omega
  subst this;exact hnd.1 hc
mutual
theorem bldS_MO {vars: List Wd} {mo: Int->Bool}: ∀(t: Tm) (h: HS) (mk: List Int),(∀ x ∈ nds t,x.l.length<=64)->MO h mk->MO (bldS vars mo t (h,mk)).1.1 (bldS vars mo t (h,mk)).1.2
 | .mk k n s l,h,mk,hn,hm=>by
  have hl:=bldL_MO (vars:=vars) (mo:=mo) l h mk (fun x hx=>hn x (by rw [nds];exact List.mem_cons_of_mem _ hx)) hm;rw [bldS]
  split
  ·exact hm
  ·split
   ·exact hm
   ·split
    ·exact hm
    ·split
     ·exact hm
     ·split
      ·rename_i st' h1;rw [h1] at hl;exact hl.1
      ·rename_i st' ws h1
       rw [h1] at hl;have hw: ws.length<=64:=by rw [hl.2 ws rfl];exact hn (.mk k n s l) (by rw [nds];exact List.mem_cons_self)
       by_cases hp:(st'.1.place (if k=5 then PB.fn s ws else PB.vec ws)).2 < 0
       ·rw [if_pos hp];exact hl.1
       ·rw [if_neg hp];refine hl.1.place ?_ hp
        split
        ·exact hw
        ·exact hw
theorem bldL_MO {vars: List Wd} {mo: Int->Bool}: ∀(ts: List Tm) (h: HS) (mk: List Int),(∀ x ∈ ndsL ts,x.l.length<=64)->MO h mk->MO (bldL vars mo ts (h,mk)).1.1 (bldL vars mo ts (h,mk)).1.2/\∀ ws,(bldL vars mo ts (h,mk)).2=some ws->ws.length=ts.length
 | [],h,mk,_,hm=>by
  rw [bldL];exact⟨hm,fun ws hw=>by obtain rfl:=Option.some.inj hw;rfl⟩
 | t::ts,h,mk,hn,hm=>by
  have h1:=bldS_MO (vars:=vars) (mo:=mo) t h mk (fun x hx=>hn x (by rw [ndsL];exact List.mem_append_left _ hx)) hm;rw [eF]
  split
  ·rename_i st' e;rw [e] at h1;exact⟨h1,fun ws hw=>by cases hw⟩
  ·rename_i st' w e
   rw [e] at h1;have h2:=bldL_MO (vars:=vars) (mo:=mo) ts st'.1 st'.2 (fun x hx=>hn x (by rw [ndsL];exact List.mem_append_right _ hx)) h1
   split
   ·rename_i e2;rw [e2] at h2;exact⟨h2.1,fun ws hw=>by cases hw⟩
   ·rename_i e2
    rw [e2] at h2;exact⟨h2.1,fun ws hw=>by obtain rfl:=Option.some.inj hw;rw [List.length_cons,List.length_cons,h2.2 _ rfl]⟩
end
theorem HS.Ok.build {h: HS} (hO: h.Ok) (t: Tm) (vars: List Wd):(h.build t vars).1.Ok:=by
 unfold HS.build
 split
 ·exact hO
 ·rename_i h1
  have ht: isTm t=true:=by simpa using h1
  have hm:=bldS_MO (vars:=vars) (mo:=moreN t) t h [] (fun x hx=>nodeR_len (isTm_nodes ht x hx)) (MO.nil hO)
  split
  ·exact hO
  ·split
   ·exact hO
   ·split
    ·rename_i st e
     rw [e] at hm;have key: ∀(mk: List Int) (g: HS),g.Ok->(mk.foldl (fun g a=>g.clear a.toNat) g).Ok:=by
      intro mk
      induction mk with
      | nil=>intro g hg;exact hg
      | cons a mk ih=>intro g hg;exact ih _ (hg.clear _)
     exact key st.2 st.1 hm.ok
    ·rename_i st w e
     rw [e] at hm;exact hm.ok
end Go.Vk
namespace Go.Vk
open Go.RowKit
structure Ext (S S': PS): Prop where
 len: S'.length=S.length
 keep: ∀(j: Nat) (b: PB),S[j]? =some (some b)->S'[j]? =some (some b)
theorem Ext.refl (S: PS): Ext S S:=⟨rfl,fun _ _ h=>h⟩
theorem Ext.trans {S S' S'': PS} (h: Ext S S') (h': Ext S' S''): Ext S S'':=⟨h'.len.trans h.len,fun j b hj=>h'.keep j b (h.keep j b hj)⟩
theorem Ext.at_ {S S': PS} (h: Ext S S') {w: Wd} {b: PB} (hw: atS S w=some b): atS S' w=some b:=by
 obtain⟨h1,h2,h3,h4,h5⟩:=ar hw;exact(bJ h1 (by rw [h.len];exact h2) h3 (h.keep _ _ h4)).trans (if_pos h5)
theorem atS_lit {S: PS} {w: Wd} (h: w.tag=1\/w.tag=2\/w.tag=3): atS S w=none:=by
 unfold atS atG
 split
 ·rfl
 ·split
  ·rename_i b hb
   rw [if_neg]
   cases b <;> simp only [PB.tag] <;> omega
  ·rfl
def Firm (S: PS) (w: Wd): Prop:=(w.tag=1\/w.tag=2\/w.tag=3)\/∃ b,atS S w=some b
theorem fol_ext {S S': PS} (h: Ext S S'): ∀(k: Nat) (w x: Wd),folS S k w=(x,true)->Firm S x->folS S' k w=(x,true)
 | 0,w,x,hf,_=>by simp [folS] at hf
 | k+1,w,x,hf,hx=>by
  unfold folS at hf ⊢
  cases ha: atS S w with
  | none =>
   rw [ha] at hf;obtain rfl: w=x:=congrArg Prod.fst hf
   rcases hx with hx |⟨b,hb⟩
   ·rw [atS_lit hx]
   ·rw [ha] at hb;cases hb
  | some b =>
   rw [ha] at hf;rw [h.at_ ha]
   match b,hf with
   | .var (y::ys) hk,hf=>exact fol_ext h k _ _ hf hx
   | .var [] hk,hf=>exact hf
   | .fn s l,hf=>exact hf
   | .vec l,hf=>exact hf
theorem gl {f g: Int->Wd->Int × Option Tm} (hfg: ∀ left w T r,f left w=(r,some T)->g left w=(r,some T)): ∀(ws: List Wd) (left r: Int) (Ts: List Tm),rdL f left ws=(r,some Ts)->rdL g left ws=(r,some Ts)
 | [],left,r,Ts,h=>h
 | w::ws,left,r,Ts,h=>by
  rw [rdL] at h ⊢;dsimp only at h ⊢
  cases hf: f left w with
  | mk r1 o =>
   rw [hf] at h
   cases o with
   | none=>cases h
   | some T =>
    rw [hfg _ _ _ _ hf];dsimp only at h ⊢
    cases hl: rdL f r1 ws with
    | mk r2 o2 =>
     rw [hl] at h
     cases o2 with
     | none=>simp at h
     | some Us =>
      rw [gl hfg ws _ _ _ hl];exact h
theorem gm {S S': PS} (h: Ext S S'): ∀(d: Nat) (left: Int) (w: Wd) (T: Tm) (r: Int),rdS S d left w=(r,some T)->rdS S' d left w=(r,some T)
 | 0,left,w,T,r,hr=>by simp [rdS] at hr
 | d+1,left,w,T,r,hr=>by
  by_cases hs:(followS S w).2=false\/left - 1 < 0
  ·rw [fL (by rcases hs with h | h;exact .inl h;exact .inr (.inl h))] at hr;cases hr
  ·have hf:(followS S w).2=true:=by
    cases hh:(followS S w).2 with
    | true=>rfl
    | false=>exact absurd (.inl hh) hs
   have hl: 0<=left - 1:=Classical.byContradiction fun e=>hs (.inr j0);have firm: ∀(hx: Firm S (followS S w).1),followS S' w=followS S w:=by
    intro hx;have h1: folS S (S.length+1) w=((followS S w).1,true):=by
     rw [<- hf];rfl
    have h2:=fol_ext h _ _ _ h1 hx
    show folS S' (S'.length+1) w=_
    rw [h.len,h2,<- hf]
   by_cases h1:(followS S w).1.tag=1
   ·have he:=firm (.inl (.inl h1));rw [fg hf hl h1] at hr;rw [fg (by rw [he];exact hf) hl (by rw [he];exact h1),he];exact hr
   ·by_cases h2:(followS S w).1.tag=2
    ·have he:=firm (.inl (.inr (.inl h2)));rw [ep hf hl h1 h2] at hr;rw [ep (by rw [he];exact hf) hl (by rw [he];exact h1) (by rw [he];exact h2),he];exact hr
    ·by_cases h3:(followS S w).1.tag=3
     ·have he:=firm (.inl (.inr (.inr h3)));rw [fh hf hl h1 h2 h3] at hr;rw [fh (by rw [he];exact hf) hl (by rw [he];exact h1) (by rw [he];exact h2) (by rw [he];exact h3),he];exact hr
     ·rw [bU hf hl h1 h2 h3] at hr
      cases ha: atS S (followS S w).1 with
      | none=>rw [ha] at hr;cases hr
      | some b =>
       have he:=firm (.inr ⟨b,ha⟩);rw [bU (by rw [he];exact hf) hl (by rw [he];exact h1) (by rw [he];exact h2) (by rw [he];exact h3),he,h.at_ ha];rw [ha] at hr
       match b,hr with
       | .var to hk,hr=>exact hr
       | .fn s ws,hr =>
        dsimp only at hr ⊢
        cases hq: rdL (rdS S d) (left - 1) ws with
        | mk r2 o =>
         rw [hq] at hr
         cases o with
         | none=>simp at hr
         | some Ts=>rw [gl (fun left w T r hh=>gm h d left w T r hh) ws _ _ _ hq];exact hr
       | .vec ws,hr =>
        dsimp only at hr ⊢
        cases hq: rdL (rdS S d) (left - 1) ws with
        | mk r2 o =>
         rw [hq] at hr
         cases o with
         | none=>simp at hr
         | some Ts=>rw [gl (fun left w T r hh=>gm h d left w T r hh) ws _ _ _ hq];exact hr
def RdW (S: PS) (w: Wd) (T: Tm): Prop:= ∀(d: Nat) (left: Int),dep T<=d->(T.sz: Int)<=left->rdS S d left w=(left - T.sz,some T)
theorem RdW.ext {S S': PS} {w: Wd} {T: Tm} (h: RdW S w T) (he: Ext S S'): RdW S' w T:=fun d left h1 h2=>gm he _ _ _ _ _ (h d left h1 h2)
def RdWs (S: PS): List Wd->List Tm->Prop
 | [], []=>True
 | w::ws,T::Ts=>RdW S w T/\RdWs S ws Ts
 | _,_=>False
theorem RdWs.ext {S S': PS} (he: Ext S S'): ∀ {ws: List Wd} {Ts: List Tm},RdWs S ws Ts->RdWs S' ws Ts
 | [], [],_=>trivial
 | w::ws,T::Ts,h=>⟨h.1.ext he,RdWs.ext he h.2⟩
 | [],_::_,h=>h.elim
 | _::_, [],h=>h.elim
theorem RdWs.read {S: PS} {d: Nat}: ∀ {ws: List Wd} {Ts: List Tm} (left: Int),RdWs S ws Ts->depL Ts<=d->(Tm.szL Ts: Int)<=left->rdL (rdS S d) left ws=(left - Tm.szL Ts,some Ts)
 | [], [],left,_,_,_=>by rw [rdL,Tm.szL];simp
 | w::ws,T::Ts,left,h,hd,hl=>by
  rw [depL] at hd;rw [Tm.szL] at hl ⊢;have h1:=h.1 d left j0 j0;have h2:=RdWs.read (d:=d) (left - T.sz) h.2 j0 j0;rw [rdL,h1];dsimp only;rw [h2];simp only [Option.map_some]
  congr 1
  omega
 | [],_::_,_,h,_,_=>h.elim
 | _::_, [],_,h,_,_=>h.elim
theorem eX (k n: Int) (s: ByteArray) (l: List Tm):(Tm.mk k n s l).sz=1+Tm.szL l:=by rw [Tm.sz]
theorem dr (k n: Int) (s: ByteArray) (l: List Tm): dep (.mk k n s l)=depL l+1:=by rw [dep]
theorem RdW.blk {S: PS} {w: Wd} {b: PB} {T: Tm} {ws: List Wd} {Ts: List Tm} (ha: atS S w=some b) (hr: RdWs S ws Ts) (hb:(∃ s,b=.fn s ws/\T=.mk 5 0 s Ts)\/(b=.vec ws/\T=.mk 6 0 ⟨#[]⟩ Ts)): RdW S w T:=by
 have hf: followS S w=(w,true):=by
  unfold followS folS;rw [ha]
  rcases hb with ⟨s,rfl,_⟩ |⟨rfl,_⟩ <;> rfl
 have htag: w.tag=b.tag:=(ar ha).2.2.2.2;have ht: 4 < w.tag:=by
  rw [htag]
  rcases hb with ⟨s,rfl,_⟩ |⟨rfl,_⟩ <;> simp [PB.tag]
 intro d left h1 h2;have hs: T.sz=1+Tm.szL Ts:=by rcases hb with ⟨s,_,rfl⟩ |⟨_,rfl⟩ <;> exact eX _ _ _ _
 have hdp: dep T=depL Ts+1:=by rcases hb with ⟨s,_,rfl⟩ |⟨_,rfl⟩ <;> exact dr _ _ _ _
 obtain⟨d',rfl⟩: ∃ d',d=d'+1:=⟨d - 1,by omega⟩;rw [bU (by rw [hf]) j0 (by rw [hf];show ¬ w.tag=1;omega) (by rw [hf];show ¬ w.tag=2;omega) (by rw [hf];show ¬ w.tag=3;omega),hf];dsimp only;rw [ha];have hl:=hr.read (d:=d') (left - 1) j0 j0
 rcases hb with ⟨s,rfl,rfl⟩ |⟨rfl,rfl⟩
 ·dsimp only;rw [hl,hs];simp only [Option.map_some]
  congr 1
  omega
 ·dsimp only;rw [hl,hs];simp only [Option.map_some]
  congr 1
  omega
def VarW (S: PS) (w: Wd): Prop:= ∃ hk,atS S w=some (.var [] hk)
theorem VarW.ext {S S': PS} {w: Wd} (h: VarW S w) (he: Ext S S'): VarW S' w:=by
 obtain⟨hk,h⟩:=h;exact⟨hk,he.at_ h⟩
theorem VarW.read {S: PS} {w: Wd} (h: VarW S w): RdW S w (.mk 1 w.n ⟨#[]⟩ []):=by
 obtain⟨hk,ha⟩:=h;have hf: followS S w=(w,true):=by
  unfold followS folS;rw [ha]
 have ht: w.tag=4:=(ar ha).2.2.2.2;intro d left h1 h2;rw [dr] at h1;rw [eX] at h2 ⊢;rw [Tm.szL] at h2 ⊢;obtain⟨d',rfl⟩: ∃ d',d=d'+1:=⟨d - 1,by omega⟩;rw [bU (by rw [hf]) j0 (by rw [hf];show ¬ w.tag=1;omega) (by rw [hf];show ¬ w.tag=2;omega) (by rw [hf];show ¬ w.tag=3;omega),hf];dsimp only;rw [ha];rfl
section
variable (vars: List Wd)
end
def EOk (e: Option Nat) (S: PS): Prop:= ∀ j,e=some j->∃ b,S[j]? =some (some b)
theorem EOk.ext {e: Option Nat} {S S': PS} (h: EOk e S) (hx: Ext S S'): EOk e S':=fun j hj=>by
 obtain⟨b,hb⟩:=h j hj;exact⟨b,hx.keep _ _ hb⟩
theorem cj {h: HS} (hO: h.Ok) (b: PB): Ext h.S (h.place b).1.S:=by
 refine⟨?_,fun j c hj=>cE hO hj⟩;unfold HS.place;dsimp only
 split
 ·rfl
 ·exact List.length_set
theorem dN {h: HS} (hO: h.Ok) {b: PB} (hb: b.ok) (hp: ¬(h.place b).2 < 0):(h.place b).1.S[(h.place b).2.toNat]? =some (some b)/\0<=(h.place b).2/\∀ c,h.S[(h.place b).2.toNat]?≠some (some c):=by
 have hp2:=hp;rw [bz] at hp2 ⊢
 rcases bK h.tk b.size with h1 |⟨q,h1,h2,h3⟩
 ·omega
 ·have hs:=hb.size;have hl: h.tk.length=h.S.length:=hO.ltk;refine⟨?_,by omega,fun c hc=>?_⟩
  ·unfold HS.place;dsimp only;rw [if_neg hp2]
   show (List.set _ _ _)[_]? =_
   rw [List.getElem?_set,if_pos J,if_pos (by rw [h1];omega)]
  ·rw [h1,Int.toNat_natCast] at hc;have h4:=(hO.tkn q).2 ⟨q,c,hc,Nat.le_refl _,by have:=(hO.blk q c hc).1.size;omega⟩;rw [h3 q (Nat.le_refl _) j0] at h4
   cases h4
theorem VarW.word {S: PS} {w: Wd} (h: VarW S w): wordS S w=true:=by
 obtain⟨hk,h⟩:=h;have ht: w.tag=4:=(ar h).2.2.2.2;unfold wordS;rw [if_neg j0,if_neg j0,if_neg j0,h];unfold refB;rw [ht];rfl
theorem co {S: PS} {w: Wd} {b: PB} (h: atS S w=some b): wordS S w=true:=by
 have ht:=(ar h).2.2.2.2;have h4: w.tag=4\/w.tag=5\/w.tag=6:=by rw [ht];cases b <;> simp [PB.tag]
 unfold wordS;rw [if_neg j0,if_neg j0,if_neg j0,h];unfold refB
 rcases h4 with h4 | h4 | h4 <;> rw [h4] <;> rfl
theorem nodeR_k3 (n: Int) (s: ByteArray) (l: List Tm): nodeR (.mk 3 n s l)=((decide (n=0)&&nameB s)&&decide (((l.length: Nat): Int)=0)):=rfl
structure Made (S: PS) (t: Tm) (w: Wd) (T: Tm): Prop where
 rd: RdW S w T
 word: wordS S w=true
 tag: t.kind=1\/¬ w.tag=4
end Go.Vk
namespace Go.Vk
open Go.RowKit
def runT (a b: Nat): List Bool:=List.replicate a true++List.replicate b false
theorem runT_len (a b: Nat):(runT a b).length=a+b:=by unfold runT;simp
theorem runT_free {a b j: Nat} (h: a<=j) (hj: j < a+b):(runT a b)[j]? =some false:=by
 unfold runT;rw [List.getElem?_append_right (by simpa using h),List.getElem?_replicate,if_pos (by simp;omega)]
theorem runT_taken {a b j: Nat} (h: j < a):(runT a b)[j]? =some true:=by
 unfold runT;rw [List.getElem?_append_left (by simpa using h),List.getElem?_replicate,if_pos h]
theorem findS_run {a b size: Nat} (h1: 1<=size) (h: size<=b): findS (runT a b) size=(a: Int):=by
 obtain⟨p,h2,h3⟩:=eK (tk:=runT a b) (size:=size) (q:=a) (by rw [runT_len];omega) (fun j h4 h5=>runT_free h4 j0) ((runT a b).length+1) 0 j0 j0
 rcases bK (runT a b) size with h4 |⟨p',h4,h5,h6⟩
 ·unfold findS at h4;omega
 ·have h7: p'=p:=by unfold findS at h4;omega
  subst h7;have h8: ¬ p' < a:=fun hc=>by
   have:=h6 p' (Nat.le_refl _) j0;rw [runT_taken hc] at this
   cases this
  rw [h4,show p'=a by omega]
theorem fill_run {a b n: Nat} (h: n<=b): fillP (runT a b) a n true=runT (a+n) (b - n):=by
 unfold fillP runT;rw [List.take_left' j3,List.drop_append,List.drop_of_length_le j3,List.nil_append,List.length_replicate,List.drop_replicate,List.replicate_append_replicate,show b - (a+n - a)=b - n by omega]
end Go.Vk
namespace Go.Vk
end Go.Vk
namespace Go.Vk
end Go.Vk
namespace Go.Vk
theorem var_run {h: HS} {a b: Nat} (htk: h.tk=runT a b) (hb: 1<=b): h.var=(⟨h.S.set a (some (.var [] [])),runT (a+1) (b - 1),h.u+1⟩,(⟨4,(a: Int),⟨#[]⟩,true⟩,0)):=by
 have hf: findS h.tk (PB.var [] []).size=(a: Int):=by rw [htk];exact findS_run (by simp only [PB.size];omega) (by simp only [PB.size];omega)
 unfold HS.var HS.place refW;dsimp only;rw [hf,if_neg j0];dsimp only;rw [if_neg j0,Int.toNat_natCast,htk];simp only [PB.size];rw [fill_run hb];rfl
theorem eC {l gs: List Int} {k: Nat} {g: Int} (h: gs[k]? =some g): addG l (gs.drop k)=addG (if l.contains g then l else l++ [g]) (gs.drop (k+1)):=by
 rw [bj h,addG]
end Go.Vk
namespace Go.Vk
section
variable (B: List Tm)
end
def VT (u: Tm): Prop:= ∃ j: Int,u=.mk 1 j ⟨#[]⟩ []/\0<=j/\j < 100000
theorem VT.sz {u: Tm} (h: VT u): u.sz=1:=by obtain⟨j,rfl,_⟩:=h;rw [Tm.sz,Tm.szL]
theorem VT.str {u: Tm} (h: VT u): strB u=true:=by obtain⟨j,rfl,_⟩:=h;rfl
theorem VT.free {u: Tm} (h: VT u): freeB u=false:=by obtain⟨j,rfl,_⟩:=h;rfl
theorem VT.at_ {B: List Tm} (h: ∀ u ∈ B,VT u) {k: Nat} {u: Tm} (hk: B[k]? =some u): VT u:=h u (List.mem_of_getElem? hk)
theorem nodeR_k2 (n: Int) (s: ByteArray) (l: List Tm): nodeR (.mk 2 n s l)=(((decide ((-2147483647)<=n)&&decide (n<=2147483647))&&decide (s=⟨#[]⟩))&&decide (((l.length: Nat): Int)=0)):=rfl
theorem nodeR_k4 (n: Int) (s: ByteArray) (l: List Tm): nodeR (.mk 4 n s l)=((decide (n=0)&&decide (((s.size: Nat): Int)<=255))&&decide (((l.length: Nat): Int)=0)):=rfl
theorem nodeR_k5 (n: Int) (s: ByteArray) (l: List Tm): nodeR (.mk 5 n s l)=(((decide (n=0)&&nameB s)&&decide (1<=((l.length: Nat): Int)))&&decide (((l.length: Nat): Int)<=16)):=rfl
theorem nodeR_k6 (n: Int) (s: ByteArray) (l: List Tm): nodeR (.mk 6 n s l)=((decide (n=0)&&decide (s=⟨#[]⟩))&&decide (((l.length: Nat): Int)<=64)):=rfl
def szAt (S: PS) (a: Int): Int:=
 match S.getD a.toNat none with
 | some b=>b.size
 | none=>0
theorem dO {S: PS} {a: Int} {b: PB} (h: S[a.toNat]? =some (some b)): szAt S a=b.size:=by
 unfold szAt;rw [List.getD_eq_getElem?_getD,h];rfl
def MU (h: HS) (mk: List Int) (u0: Int): Prop:=h.u=u0+(mk.map (szAt h.S)).sum
theorem MU.place {h: HS} {mk: List Int} {u0: Int} (hm: MO h mk) (hu: MU h mk u0) {b: PB} (hb: b.ok) (hp: ¬(h.place b).2 < 0): MU (h.place b).1 (mk++ [(h.place b).2]) u0:=by
 obtain⟨h1,h2,h3⟩:=dN hm.ok hb hp;have hold: mk.map (szAt (h.place b).1.S)=mk.map (szAt h.S):=List.map_congr_left fun a ha=>by
  obtain⟨h4,c,h5⟩:=hm.at_ a ha;rw [dO (cE hm.ok h5),dO h5]
 have hu':(h.place b).1.u=h.u+b.size:=by
  rw [bz] at hp;unfold HS.place;dsimp only;rw [if_neg hp]
 unfold MU at hu ⊢;rw [List.map_append,List.sum_append,hold,hu',hu,List.map_cons,List.map_nil,List.sum_cons,List.sum_nil,dO h1];omega
theorem MU.clear {h: HS} {a: Int} {mk: List Int} {u0: Int} (hm: MO h (a::mk)) (hu: MU h (a::mk) u0): MU (h.clear a.toNat) mk u0:=by
 obtain⟨h0,b,hb⟩:=hm.at_ a List.mem_cons_self;have hnd:=List.nodup_cons.1 hm.nd;have hg: h.S.getD a.toNat none=some b:=by rw [List.getD_eq_getElem?_getD,hb];rfl
 have hc: h.clear a.toNat=⟨h.S.set a.toNat none,fillP h.tk a.toNat b.size false,h.u - b.size⟩:=by
  unfold HS.clear;rw [hg]
 have hold: mk.map (szAt (h.clear a.toNat).S)=mk.map (szAt h.S):=List.map_congr_left fun x hx=>by
  obtain⟨h4,c,h5⟩:=hm.at_ x (List.mem_cons_of_mem _ hx);have hne: a.toNat≠x.toNat:=fun e=>hnd.1 (by rw [show a=x by omega];exact hx);rw [hc];rw [dO (b:=c) (by show (h.S.set a.toNat none)[x.toNat]? =_;rw [List.getElem?_set_ne hne];exact h5),dO h5]
 unfold MU at hu ⊢;rw [hold,hc];rw [List.map_cons,List.sum_cons,dO hb] at hu
 show h.u - b.size=_
 omega
structure VS (h: HS) (n k: Nat): Prop where
 ok: h.Ok
 le: k<=n
 tk: h.tk=runT k (n - k)
 at_: ∀ j,j < k->h.S[j]? =some (some (.var [] []))
theorem VS.new {n: Nat} (h: n<=65536): VS (HS.new n) n 0:=⟨HS.Ok.new h,Nat.zero_le _,(List.nil_append _).symm,fun j hj=>by omega⟩
theorem VS.var {h: HS} {n k: Nat} (hv: VS h n k) (hk: k < n): ∃ h',h.var=(h',(⟨4,(k: Int),⟨#[]⟩,true⟩,0))/\VS h' n (k+1):=by
 have e:=var_run hv.tk j0;have hO:=hv.ok.var;rw [e] at hO;have hlen: h.S.length=n:=by
  have h1:=hv.ok.ltk;rw [hv.tk,runT_len] at h1;have:=hv.le;omega
 refine⟨_,e,hO,by omega,by show runT (k+1) (n - k - 1)=_;congr 1,fun j hj=>?_⟩
 show (h.S.set k (some (.var [] [])))[j]? =_
 rw [List.getElem?_set]
 split
 ·rename_i e
  rw [if_pos j0]
 ·exact hv.at_ j j0
end Go.Vk
namespace Go.Vk
def wdsO: Option PB->List Wd
 | some b=>b.words
 | none=> []
def refsOf (S: PS): List Wd:=S.flatMap wdsO
theorem cr (o: Option PB) (S: PS): refsOf (o::S)=wdsO o++refsOf S:=by simp [refsOf]
theorem bG: ∀ {S: PS} {j: Nat} {o: Option PB},S[j]? =some o->(refsOf S).Perm (wdsO o++refsOf (S.set j none))
 | [],j,o,h=>by simp at h
 | x::S,0,o,h=>by
  obtain rfl: x=o:=by simpa using h
  rw [List.set_cons_zero,cr,cr];exact List.Perm.refl _
 | x::S,j+1,o,h=>by
  have ih:=bG (S:=S) (j:=j) (o:=o) (by simpa using h);rw [List.set_cons_succ,cr,cr];refine(List.Perm.append_left _ ih).trans ?_;rw [<- List.append_assoc,<- List.append_assoc];exact List.perm_append_comm.append_right _
theorem dg {S: PS} {j: Nat} (o: Option PB) (h: j < S.length):(refsOf (S.set j o)).Perm (wdsO o++refsOf (S.set j none)):=by
 have:=bG (S:=S.set j o) (j:=j) (o:=o) (by rw [List.getElem?_set,if_pos J,if_pos h])
 rwa [List.set_set] at this
theorem bW {S: PS} {w: Wd}: w ∈ refsOf S↔∃(j: Nat) (b: PB),S[j]? =some (some b)/\w ∈ b.words:=by
 unfold refsOf;rw [List.mem_flatMap]
 constructor
 ·rintro⟨o,h1,h2⟩
  cases o with
  | none=>cases h2
  | some b=>obtain ⟨j,hj⟩:=List.getElem?_of_mem h1;exact⟨j,b,hj,h2⟩
 ·rintro⟨j,b,h1,h2⟩;exact⟨some b,List.mem_of_getElem? h1,h2⟩
def Sep (x y: Wd): Prop:=refB x=true->refB y=true->x.n=y.n->x.one=false/\y.one=false
theorem Sep.symm {x y: Wd} (h: Sep x y): Sep y x:=fun h1 h2 h3=>(h h2 h1 h3.symm).symm
theorem cc {l l': List Wd} (hp: l.Perm l') (h: l.Pairwise Sep): l'.Pairwise Sep:=(List.Perm.pairwise_iff (fun h=>Sep.symm h) hp).1 h
theorem sep_sh {x y: Wd} (h: Sep x y): Sep (shW x) y:=fun h1 h2 h3=>⟨rfl,(h h1 h2 h3).2⟩
theorem sep_lit {x y: Wd} (h: refB x=false): Sep x y:=fun h1=>by rw [h] at h1;cases h1
theorem pw_share {w: Wd} {l: List Wd} (h:(w::l).Pairwise Sep):(shW w::shW w::l).Pairwise Sep:=by
 rw [List.pairwise_cons] at h;rw [List.pairwise_cons,List.pairwise_cons];refine⟨fun y hy=>?_,fun y hy=>sep_sh (h.1 y hy),h.2⟩
 rcases List.mem_cons.1 hy with rfl | hy
 ·exact fun _ _ _=>⟨rfl,rfl⟩
 ·exact sep_sh (h.1 y hy)
theorem pw_shall: ∀ {xs l: List Wd},(xs++l).Pairwise Sep->(xs.map shW++(xs.map shW++l)).Pairwise Sep
 | [],l,h=>h
 | x::xs,l,h=>by
  have h1:(xs++(x::l)).Pairwise Sep:=cc List.perm_middle.symm h;have h2:=pw_shall h1;have h3:(x::(xs.map shW++(xs.map shW++l))).Pairwise Sep:=by
   refine cc ?_ h2;rw [<- List.append_assoc,<- List.append_assoc];exact List.perm_middle
  have h4:=pw_share h3;refine cc ?_ h4;rw [List.map_cons,List.cons_append,List.cons_append];refine List.Perm.cons _ ?_;exact List.perm_middle.symm
theorem ez {S S': PS} {w: Wd} (h: ∀ b,atS S w=some b->∃ b',atS S' w=some b') (hw: wordS S w=true): wordS S' w=true:=by
 unfold wordS at hw ⊢
 by_cases h1: w.tag=1
 ·rw [if_pos h1] at hw ⊢;exact hw
 ·rw [if_neg h1] at hw ⊢
  by_cases h2: w.tag=2
  ·rw [if_pos h2] at hw ⊢;exact hw
  ·rw [if_neg h2] at hw ⊢
   by_cases h3: w.tag=3
   ·rw [if_pos h3] at hw ⊢;exact hw
   ·rw [if_neg h3] at hw ⊢;rw [Bool.and_eq_true] at hw ⊢;obtain⟨b,hb⟩:=Option.isSome_iff_exists.1 hw.2;obtain⟨b',hb'⟩:=h b hb;exact⟨hw.1,by rw [hb'];rfl⟩
theorem ey {S S': PS} {w: Wd} (h: Ext S S') (hw: wordS S w=true): wordS S' w=true:=ez (fun b hb=>⟨b,h.at_ hb⟩) hw
theorem gt {S: PS} {w: Wd} (hw: wordS S w=true): wordS S (shW w)=true:=by
 unfold wordS at hw ⊢;have e: atS S (shW w)=atS S w:=rfl
 by_cases h1: w.tag=1
 ·rw [if_pos h1] at hw;rw [if_pos (show (shW w).tag=1 from h1)];simp only [Bool.and_eq_true] at hw ⊢;exact⟨⟨⟨hw.1.1.1,rfl⟩,hw.1.2⟩,hw.2⟩
 ·rw [if_neg h1] at hw;rw [if_neg (show ¬(shW w).tag=1 from h1)]
  by_cases h2: w.tag=2
  ·rw [if_pos h2] at hw;rw [if_pos (show (shW w).tag=2 from h2)];simp only [Bool.and_eq_true] at hw ⊢;exact⟨⟨hw.1.1,rfl⟩,hw.2⟩
  ·rw [if_neg h2] at hw;rw [if_neg (show ¬(shW w).tag=2 from h2)]
   by_cases h3: w.tag=3
   ·rw [if_pos h3] at hw;rw [if_pos (show (shW w).tag=3 from h3)];simp only [Bool.and_eq_true] at hw ⊢;exact⟨⟨hw.1.1,rfl⟩,hw.2⟩
   ·rw [if_neg h3] at hw;rw [if_neg (show ¬(shW w).tag=3 from h3)];exact hw
theorem d9 {S: PS} {w: Wd} {j: Nat} {o: Option PB} (h: w.n.toNat≠j): atS (S.set j o) w=atS S w:=by
 unfold atS atG;rw [List.length_set]
 split
 ·rfl
 ·rw [List.getD_eq_getElem?_getD,List.getD_eq_getElem?_getD,List.getElem?_set,if_neg (fun e=>h e.symm)]
theorem cG {S: PS} {w: Wd} {j: Nat} {b c: PB} (hj: S[j]? =some (some b)) (ht: b.tag=c.tag) (hw: wordS S w=true): wordS (S.set j (some c)) w=true:=by
 refine ez (fun d hd=>?_) hw
 by_cases h: w.n.toNat=j
 ·obtain⟨h1,h2,h3,h4,h5⟩:=ar hd;rw [h,hj] at h4;obtain rfl:=Option.some.inj (Option.some.inj h4);refine⟨c,?_⟩;exact(bJ h1 (by rw [List.length_set];exact h2) h3 (by rw [h,List.getElem?_set,if_pos J,if_pos j0])).trans (if_pos (by rw [h5];exact ht))
 ·exact⟨d,by rw [d9 h];exact hd⟩
theorem fR {S: PS} {w: Wd} {j: Nat} (h: refB w=true->w.n≠(j: Int)) (hw: wordS S w=true): wordS (S.set j none) w=true:=by
 by_cases hr: refB w=true
 ·refine ez (fun d hd=>⟨d,?_⟩) hw;have:=(ar hd).1;rw [d9 (by have:=h hr;omega)];exact hd
 ·refine ez (fun d hd=>?_) hw
  exfalso
  apply hr
  have h5:=(ar hd).2.2.2.2;unfold refB
  cases d <;> simp [PB.tag] at h5 <;> simp [h5]
def Unb (S: PS) (v: Wd): Prop:=v.tag=4/\v.one=false/\atS S v=some (.var [] [])
structure DI (h: HS) (ws bs: List Wd): Prop where
 ok: h.Ok
 wv: ∀ w ∈ ws,wordS h.S w=true
 rv: ∀ w ∈ refsOf h.S,wordS h.S w=true
 pw:(ws++refsOf h.S).Pairwise Sep
 bv: ∀ v ∈ bs,Unb h.S v
 bd: bs.Pairwise (fun x y=>x.n≠y.n)
 hk: ∀(j: Nat) to hk,h.S[j]? =some (some (.var to hk))->hk= []
theorem refsOf_new (n: Nat): refsOf (List.replicate n none)= []:=by
 induction n with
 | zero=>rfl
 | succ n ih=>rw [List.replicate_succ,cr,ih];rfl
theorem DI.new {n: Nat} (h: n<=65536): DI (HS.new n) [] []:=by
 refine⟨HS.Ok.new h,(fun w h=>by cases h),?_,?_,(fun w h=>by cases h),List.Pairwise.nil,fun j to hk hj=>?_⟩
 ·intro w hw;rw [show (HS.new n).S=List.replicate n none from rfl,refsOf_new] at hw;cases hw
 ·rw [show (HS.new n).S=List.replicate n none from rfl,refsOf_new];exact List.Pairwise.nil
 ·simp only [HS.new,List.getElem?_replicate] at hj
  split at hj <;> cases hj
section
variable {h: HS} {ws ws' bs bs': List Wd} {w v x y: Wd}
theorem DI.perm (hd: DI h ws bs) (hp: ws.Perm ws'): DI h ws' bs:=⟨hd.ok,fun w hw=>hd.wv w (hp.mem_iff.2 hw),hd.rv,cc (hp.append_right _) hd.pw,hd.bv,hd.bd,hd.hk⟩
theorem DI.permB (hd: DI h ws bs) (hp: bs.Perm bs'): DI h ws bs':=⟨hd.ok,hd.wv,hd.rv,hd.pw,fun w hw=>hd.bv w (hp.mem_iff.2 hw),(List.Perm.pairwise_iff (fun h e=>h e.symm) hp).1 hd.bd,hd.hk⟩
theorem DI.sub (hd: DI h ws bs) (hp: ws'.Sublist ws): DI h ws' bs:=⟨hd.ok,fun w hw=>hd.wv w (hp.subset hw),hd.rv,hd.pw.sublist (hp.append_right _),hd.bv,hd.bd,hd.hk⟩
theorem DI.tail (hd: DI h (w::ws) bs): DI h ws bs:=hd.sub (List.sublist_cons_self _ _)
theorem DI.lit (hd: DI h ws bs) (hw: wordS h.S w=true) (hr: refB w=false): DI h (w::ws) bs:=by
 refine⟨hd.ok,fun x hx=>?_,hd.rv,?_,hd.bv,hd.bd,hd.hk⟩
 ·rcases List.mem_cons.1 hx with rfl | hx
  ·exact hw
  ·exact hd.wv x hx
 ·rw [List.cons_append,List.pairwise_cons];exact⟨fun y _=>sep_lit hr,hd.pw⟩
theorem DI.share (hd: DI h (w::ws) bs): DI h (shW w::shW w::ws) bs:=by
 refine⟨hd.ok,fun x hx=>?_,hd.rv,pw_share hd.pw,hd.bv,hd.bd,hd.hk⟩
 rcases List.mem_cons.1 hx with rfl | hx
 ·exact gt (hd.wv w List.mem_cons_self)
 ·rcases List.mem_cons.1 hx with rfl | hx
  ·exact gt (hd.wv w List.mem_cons_self)
  ·exact hd.wv x (List.mem_cons_of_mem _ hx)
theorem Unb.ext {S S': PS} (h: Unb S v) (he: Ext S S'): Unb S' v:=⟨h.1,h.2.1,he.at_ h.2.2⟩
theorem DI.place {b: PB} {args: List Wd} (hd: DI h (args++ws) bs) (hb: b.ok) (hw: b.words=args) (hk: ∀ to hk,b=.var to hk->hk= []) (hp: ¬(h.place b).2 < 0): DI (h.place b).1 (⟨b.tag,(h.place b).2,⟨#[]⟩,true⟩ ::ws) bs:=by
 subst hw;obtain⟨h1,h2,h3⟩:=dN hd.ok hb hp;have hx:=cj hd.ok b;have hs:(h.place b).1.S=h.S.set (h.place b).2.toNat (some b):=by
  have hp':=hp;rw [bz] at hp' ⊢;unfold HS.place;dsimp only;rw [if_neg hp']
 have hlt:(h.place b).2.toNat < h.S.length:=by
  have:=(List.getElem?_eq_some_iff.1 h1).1
  rwa [hx.len] at this
 have hnone: h.S[(h.place b).2.toNat]? =some none:=by
  rw [List.getElem?_eq_getElem hlt]
  cases hc: h.S[(h.place b).2.toNat] with
  | none=>rfl
  | some c=>exact absurd (by rw [List.getElem?_eq_getElem hlt,hc]) (h3 c)
 have hperm:(refsOf (h.place b).1.S).Perm (b.words++refsOf h.S):=by
  rw [hs];refine(dg (some b) hlt).trans ?_;have e: h.S.set (h.place b).2.toNat none=h.S:=by
   apply List.ext_getElem?
   intro k;rw [List.getElem?_set]
   split
   ·rename_i e
    subst e;rw [hnone]
   ·rfl
  rw [e];exact List.Perm.refl _
 have hrefb: refB ⟨b.tag,(h.place b).2,⟨#[]⟩,true⟩ =true:=by cases b <;> rfl
 have hat: atS (h.place b).1.S ⟨b.tag,(h.place b).2,⟨#[]⟩,true⟩ =some b:=(bJ h2 (by show (h.place b).2 < _;rw [hx.len];omega) J h1).trans (if_pos J);have old: ∀ z,wordS h.S z=true->refB z=true->z.n≠(h.place b).2:=by
  intro z hz hr he;have:=dE hz hr;unfold wordS at hz;unfold refB at hr;simp only [Bool.or_eq_true,decide_eq_true_eq] at hr;rw [if_neg j0,if_neg j0,if_neg j0,Bool.and_eq_true] at hz;obtain⟨c,hc⟩:=Option.isSome_iff_exists.1 hz.2;have:=(ar hc).2.2.2.1;rw [he] at this;exact h3 c this
 refine⟨hd.ok.place hb,fun z hz=>?_,fun z hz=>?_,?_,fun z hz=>(hd.bv z hz).ext hx,hd.bd,fun j to hk' hj=>?_⟩
 ·rcases List.mem_cons.1 hz with rfl | hz
  ·exact co hat
  ·exact ey hx (hd.wv z (List.mem_append_right _ hz))
 ·rcases List.mem_append.1 (hperm.mem_iff.1 hz) with hz | hz
  ·exact ey hx (hd.wv z (List.mem_append_left _ hz))
  ·exact ey hx (hd.rv z hz)
 ·have hp2:((⟨b.tag,(h.place b).2,⟨#[]⟩,true⟩: Wd)::(b.words++ws++refsOf h.S)).Perm ((⟨b.tag,(h.place b).2,⟨#[]⟩,true⟩ ::ws)++refsOf (h.place b).1.S):=by
   rw [List.cons_append];refine List.Perm.cons _ ?_;refine List.Perm.trans ?_ (List.Perm.append_left _ hperm.symm);rw [<- List.append_assoc];exact List.perm_append_comm.append_right _
  refine cc hp2 ?_;rw [List.pairwise_cons];refine⟨fun z hz h4 h5 h6=>?_,hd.pw⟩
  exfalso
  have hz2: wordS h.S z=true:=by
   rcases List.mem_append.1 hz with hz | hz
   ·exact hd.wv z hz
   ·exact hd.rv z hz
  exact old z hz2 h5 h6.symm
 ·rw [hs] at hj
  rcases bm hj with ⟨_,e⟩ |⟨_,h4⟩
  ·exact hk to hk' (Option.some.inj e).symm
  ·exact hd.hk j to hk' h4
theorem unb_ne {S: PS} {a: Wd} {b: PB} (hv: Unb S v) (ha: atS S a=some b) (hb: ∀ hk,b≠.var [] hk): v.n≠a.n:=fun e=>by
 have h1:=(ar hv.2.2).2.2.2.1;have h2:=(ar ha).2.2.2.1;rw [e,h2] at h1;exact hb [] (Option.some.inj (Option.some.inj h1))
theorem Unb.del {S: PS} {j: Nat} {o: Option PB} (hv: Unb S v) (hn: v.n≠(j: Int)): Unb (S.set j o) v:=⟨hv.1,hv.2.1,by
 have:=(ar hv.2.2).1;rw [d9 j0];exact hv.2.2⟩
theorem DI.only (hd: DI h (w::ws) bs) (ho: w.one=true) (hr: refB w=true): ∀ z ∈ ws++refsOf h.S,refB z=true->z.n≠w.n:=by
 intro z hz h1 h2;have h3:=hd.pw;rw [List.cons_append,List.pairwise_cons] at h3;have:=(h3.1 z hz hr h1 h2.symm).1;rw [ho] at this;cases this
theorem gw {S: PS} {b: PB} (h: atS S w=some b): refB w=true:=by
 have h5:=(ar h).2.2.2.2;unfold refB
 cases b <;> simp [PB.tag] at h5 <;> simp [h5]
theorem DI.free {l: List Wd} {h': HS} (hd: DI h (w::ws) bs) (hf: h.free w=(h',(l,0))): DI h' (l++ws) bs:=by
 unfold HS.free at hf
 cases hb: atS h.S w with
 | none=>rw [hb] at hf;cases hf
 | some b =>
  rw [hb] at hf;dsimp only at hf
  split at hf
  ·cases hf
  ·rename_i hnv
   split at hf
   ·cases hf
   ·rename_i ho
    have ho: w.one=true:=by simpa using ho
    injection hf with e1 e2
    injection e2 with e2 _
    obtain⟨g1,g2,g3,g4,g5⟩:=ar hb;have hcl: h.clear w.n.toNat=⟨h.S.set w.n.toNat none,fillP h.tk w.n.toNat b.size false,h.u - b.size⟩:=by
     unfold HS.clear;rw [List.getD_eq_getElem?_getD,g4];rfl
    have hS': h'.S=h.S.set w.n.toNat none:=by rw [<- e1,hcl]
    have hok: h'.Ok:=by rw [<- e1];exact hd.ok.clear _
    have honly:=hd.only ho (gw hb);have hsp:=bG g4;have hnat:((w.n.toNat: Nat): Int)=w.n:=by omega
    subst e2;refine⟨hok,fun z hz=>?_,fun z hz=>?_,?_,fun z hz=>?_,hd.bd,fun j to hk hj=>?_⟩
    ·rw [hS']
     rcases List.mem_append.1 hz with hz | hz
     ·have hz2: z ∈ refsOf h.S:=hsp.mem_iff.2 (List.mem_append_left _ hz);exact fR (fun hr e=>honly z (List.mem_append_right _ hz2) hr j0) (hd.rv z hz2)
     ·exact fR (fun hr e=>honly z (List.mem_append_left _ hz) hr j0) (hd.wv z (List.mem_cons_of_mem _ hz))
    ·rw [hS'] at hz ⊢;have hz2: z ∈ refsOf h.S:=hsp.mem_iff.2 (List.mem_append_right _ hz);exact fR (fun hr e=>honly z (List.mem_append_right _ hz2) hr j0) (hd.rv z hz2)
    ·rw [hS'];have h3:(ws++refsOf h.S).Pairwise Sep:=hd.tail.pw;refine cc ?_ h3;refine(List.Perm.append_left _ hsp).trans ?_
     show (ws++(b.words++_)).Perm (b.words++ws++_)
     rw [<- List.append_assoc];exact List.perm_append_comm.append_right _
    ·rw [hS'];refine(hd.bv z hz).del ?_;rw [hnat];refine unb_ne (hd.bv z hz) hb (fun hk e=>hnv ?_);subst e;exact⟨rfl,rfl⟩
    ·rw [hS'] at hj
     rcases bm hj with ⟨_,e⟩ |⟨_,h4⟩
     ·cases e
     ·exact hd.hk j to hk h4
theorem DI.put {b c: PB} {args: List Wd} (hd: DI h (args++ws) bs) {j: Nat} (hj: h.S[j]? =some (some b)) (hc: c.words=args) (ht: b.tag=c.tag) (hok:(h.setB j c).Ok) (hnv: ∀ to hk,b≠.var to hk): DI (h.setB j c) (b.words++ws) bs:=by
 subst hc;have hlt:=(List.getElem?_eq_some_iff.1 hj).1;have hsp:=bG hj;have hst:=dg (some c) hlt;have hS':(h.setB j c).S=h.S.set j (some c):=rfl;refine⟨hok,fun z hz=>?_,fun z hz=>?_,?_,fun z hz=>?_,hd.bd,fun i to hk hi=>?_⟩
 ·rw [hS'];refine cG hj ht ?_
  rcases List.mem_append.1 hz with hz | hz
  ·exact hd.rv z (hsp.mem_iff.2 (List.mem_append_left _ hz))
  ·exact hd.wv z (List.mem_append_right _ hz)
 ·rw [hS'] at hz ⊢;refine cG hj ht ?_
  rcases List.mem_append.1 (hst.mem_iff.1 hz) with hz | hz
  ·exact hd.wv z (List.mem_append_left _ hz)
  ·exact hd.rv z (hsp.mem_iff.2 (List.mem_append_right _ hz))
 ·rw [hS'];refine cc ?_ hd.pw;refine(List.Perm.append_left _ hsp).trans ?_;refine List.Perm.trans ?_ (List.Perm.append_left _ hst.symm)
  show (c.words++ws++(b.words++_)).Perm (b.words++ws++(c.words++_))
  rw [<- List.append_assoc,<- List.append_assoc];refine List.Perm.append_right _ ?_;rw [List.append_assoc];refine List.perm_append_comm.trans ?_;refine List.Perm.append_right _ ?_;exact List.perm_append_comm
 ·rw [hS'];refine(hd.bv z hz).del (fun e=>?_);have:=(ar (hd.bv z hz).2.2).2.2.2.1;rw [show z.n.toNat=j by omega,hj] at this;exact hnv _ _ (Option.some.inj (Option.some.inj this))
 ·rw [hS'] at hi
  rcases bm hi with ⟨_,e⟩ |⟨_,h4⟩
  ·have e:=Option.some.inj e;rw [<- e] at ht
   cases b with
   | var t2 k2=>exact absurd J (hnv t2 k2)
   | fn s l=>cases ht
   | vec l=>cases ht
  ·exact hd.hk i to hk h4
end
end Go.Vk
namespace Go.Vk
theorem bC {α: Type}: ∀ {l: List α} {i: Nat} (h: i < l.length),(l[i]::l.eraseIdx i).Perm l
 | [],i,h=>by simp at h
 | x::l,0,h=>List.Perm.refl _
 | x::l,i+1,h=>by
  have h2: i < l.length:=by simpa using h
  rw [List.eraseIdx_cons_succ]
  show (l[i]::x::l.eraseIdx i).Perm (x::l)
  exact(List.Perm.swap _ _ _).trans (List.Perm.cons _ (bC h2))
section
variable {h h': HS} {ws ws' bs bs' pool pool': List Wd} {w v x y u: Wd}
theorem DI.swap {b c: PB} (hd: DI h pool bs) {j: Nat} (hj: h.S[j]? =some (some b)) (hp:(c.words++pool').Perm (b.words++pool)) (ht: b.tag=c.tag) (hok:(h.setB j c).Ok) (hb: ∀ z ∈ bs,z.n≠(j: Int)) (hv: ∀ to hk,c=.var to hk->hk= []): DI (h.setB j c) pool' bs:=by
 have hlt:=(List.getElem?_eq_some_iff.1 hj).1;have hsp:=bG hj;have hst:=dg (some c) hlt;have hS':(h.setB j c).S=h.S.set j (some c):=rfl;have hw: ∀ z ∈ b.words++pool,wordS h.S z=true:=fun z hz=>by
  rcases List.mem_append.1 hz with hz | hz
  ·exact hd.rv z (hsp.mem_iff.2 (List.mem_append_left _ hz))
  ·exact hd.wv z hz
 refine⟨hok,fun z hz=>?_,fun z hz=>?_,?_,fun z hz=>(hd.bv z hz).del (hb z hz),hd.bd,fun i to hk hi=>?_⟩
 ·rw [hS'];exact cG hj ht (hw z (hp.mem_iff.1 (List.mem_append_right _ hz)))
 ·rw [hS'] at hz ⊢;refine cG hj ht ?_
  rcases List.mem_append.1 (hst.mem_iff.1 hz) with hz | hz
  ·exact hw z (hp.mem_iff.1 (List.mem_append_left _ hz))
  ·exact hd.rv z (hsp.mem_iff.2 (List.mem_append_right _ hz))
 ·rw [hS'];refine cc ?_ hd.pw;refine(List.Perm.append_left _ hsp).trans ?_;refine List.Perm.trans ?_ (List.Perm.append_left _ hst.symm)
  show (pool++(b.words++_)).Perm (pool'++(c.words++_))
  rw [<- List.append_assoc,<- List.append_assoc];exact List.Perm.append_right _ ((List.perm_append_comm.trans hp.symm).trans List.perm_append_comm)
 ·rw [hS'] at hi
  rcases bm hi with ⟨_,e⟩ |⟨_,h4⟩
  ·exact hv to hk (Option.some.inj e).symm
  ·exact hd.hk i to hk h4
theorem DI.bs_ne {b: PB} (hd: DI h pool bs) {j: Nat} (hj: h.S[j]? =some (some b)) (hb: ∀ hk,b≠.var [] hk): ∀ z ∈ bs,z.n≠(j: Int):=fun z hz e=>by
 have:=(ar (hd.bv z hz).2.2).2.2.2.1;rw [show z.n.toNat=j by omega,hj] at this;exact hb [] (Option.some.inj (Option.some.inj this))
def holdP (ws: List Wd) (w: Wd) (e: Int): List Wd:=if e=0 then ws++ [w] else ws
theorem ei (ws: List Wd) (w: Wd): holdP ws w 0=ws++ [w]:=if_pos J
theorem holdP_no {e: Int} (ws: List Wd) (w: Wd) (h: ¬ e=0): holdP ws w e=ws:=if_neg h
theorem DI.snoc (hd: DI h (w::ws) bs): DI h (ws++ [w]) bs:=hd.perm (List.perm_append_comm (l₁:= [w]) (l₂:=ws))
theorem place_same {b: PB} (hp:(h.place b).2 < 0):(h.place b).1=h:=by
 rw [bz] at hp;unfold HS.place;dsimp only;rw [if_pos hp]
theorem DI.held {b: PB} {args: List Wd} (hd: DI h (args++ws) bs) (hb: b.ok) (hw: b.words=args) (hk: ∀ to hk,b=.var to hk->hk= []): DI (h.place b).1 (holdP ws (refW b.tag (h.place b).2).1 (refW b.tag (h.place b).2).2) bs:=by
 unfold refW
 by_cases hp:(h.place b).2 < 0
 ·rw [if_pos hp,holdP_no _ _ (by show ¬(210: Int)=0;omega),place_same hp];exact hd.sub (List.sublist_append_right _ _)
 ·rw [if_neg hp,ei];exact(hd.place hb hw hk hp).snoc
theorem DI.allW (hd: DI h ws bs) (hs: ws'.Sublist ws): allS h.S ws'=true:=by
 unfold allS;rw [List.all_eq_true];exact fun w hw=>hd.wv w (hs.subset hw)
theorem DI.hfun {s: ByteArray} {args: List Wd} (hd: DI h (args++ws) bs) (hs: nmB s=true) (h1: 1<=args.length) (h2: args.length<=16): DI (h.fun_ s args).1 (holdP ws (h.fun_ s args).2.1 (h.fun_ s args).2.2) bs:=by
 unfold HS.fun_;rw [if_neg (by rw [hs];simp),if_neg (by rw [hd.allW (List.sublist_append_left _ _)];simp),if_neg j0];exact hd.held (b:=.fn s args) (by show args.length<=64;omega) J (fun _ _ e=>by cases e)
theorem DI.hvec {args: List Wd} (hd: DI h (args++ws) bs) (h2: args.length<=64): DI (h.vec args).1 (holdP ws (h.vec args).2.1 (h.vec args).2.2) bs:=by
 unfold HS.vec;rw [if_neg (by rw [hd.allW (List.sublist_append_left _ _)];simp),if_neg j0];exact hd.held (b:=.vec args) h2 J (fun _ _ e=>by cases e)
theorem DI.var (hd: DI h ws bs):(h.var.2.2=0->DI h.var.1 (ws++ [h.var.2.1]) (bs++ [shW h.var.2.1]))/\(¬ h.var.2.2=0->h.var.1=h):=by
 have hb:(PB.var [] []).ok:=⟨Nat.zero_le _,Nat.zero_le _⟩;unfold HS.var refW;dsimp only
 by_cases hp:(h.place (.var [] [])).2 < 0
 ·rw [if_pos hp];exact⟨fun e=>absurd e (by show ¬(210: Int)=0;omega),fun _=>place_same hp⟩
 ·rw [if_neg hp];refine⟨fun _=>?_,fun e=>absurd J e⟩;obtain⟨h1,h2,h3⟩:=dN hd.ok hb hp;have hx:=cj hd.ok (.var [] []);have hlt:(h.place (.var [] [])).2.toNat < h.S.length:=by
   have:=(List.getElem?_eq_some_iff.1 h1).1
   rwa [hx.len] at this
  have hd':=(DI.place (args:= []) hd hb J (fun _ _ e=>by injection e with e1 e2;exact e2.symm) hp).snoc;refine⟨hd'.ok,hd'.wv,hd'.rv,hd'.pw,fun z hz=>?_,?_,hd'.hk⟩
  ·rcases List.mem_append.1 hz with hz | hz
   ·exact hd'.bv z hz
   ·rw [List.mem_singleton] at hz;subst hz;exact⟨rfl,rfl,(bJ h2 (by show (h.place _).2 < _;rw [hx.len];omega) J h1).trans (if_pos J)⟩
  ·rw [List.pairwise_append];refine⟨hd'.bd,List.pairwise_singleton _ _,fun z hz q hq e=>?_⟩;rw [List.mem_singleton] at hq;subst hq;have h4:=(ar (hd.bv z hz).2.2).2.2.2.1;rw [show z.n.toNat=(h.place (.var [] [])).2.toNat from congrArg Int.toNat e] at h4;exact h3 _ h4
theorem free_no (hf: ¬(h.free w).2.2=0):(h.free w).1=h:=by
 unfold HS.free at hf ⊢
 cases hb: atS h.S w with
 | none=>rfl
 | some b =>
  rw [hb] at hf;dsimp only at hf ⊢
  split
  ·rfl
  ·split
   ·rfl
   ·rename_i h1 h2
    rw [if_neg h1,if_neg h2] at hf;exact absurd J hf
def partsS (S: PS) (w: Wd): ByteArray × List Wd × Int:=
 match atS S w with
 | some (.fn s l)=>(s,l,0)
 | some (.vec l)=>(⟨#[]⟩,l,0)
 | _=>(⟨#[]⟩, [],211)
def HS.reuse (h: HS) (w: Wd) (s: ByteArray) (l: List Wd): HS ×(Wd × Int):=
 match atS h.S w with
 | some (.fn s0 l0)=>if w.one=false then (h,(Wd.zero,212)) else if nmB s=false then (h,(Wd.zero,1)) else if allS h.S l=false then (h,(Wd.zero,211)) else if ¬ l.length=l0.length then (h,(Wd.zero,1)) else (h.setB w.n.toNat (.fn s l),(w,0))
 | _=>(h,(Wd.zero,211))
theorem setB_ok {b c: PB} (hO: h.Ok) {j: Nat} (hj: h.S[j]? =some (some b)) (hs: b.size=c.size) (hc: c.ok):(h.setB j c).Ok:=by
 have hlt:=(List.getElem?_eq_some_iff.1 hj).1;have key: ∀(k: Nat) (d: PB),(h.S.set j (some c))[k]? =some (some d)->∃ d',h.S[k]? =some (some d')/\d'.size=d.size/\(d.ok\/d'=d):=fun k d hk=>by
  rcases bm hk with ⟨e1,e2⟩ |⟨_,h4⟩
  ·obtain rfl:=Option.some.inj e2;exact⟨b,by rw [e1];exact hj,hs,.inl hc⟩
  ·exact⟨d,h4,rfl,.inr J⟩
 have key2: ∀(k: Nat) (d: PB),h.S[k]? =some (some d)->∃ d',(h.S.set j (some c))[k]? =some (some d')/\d'.size=d.size:=fun k d hk=>by
  by_cases e: j=k
  ·subst e;rw [hj] at hk;obtain rfl:=Option.some.inj (Option.some.inj hk);exact⟨c,by rw [List.getElem?_set,if_pos J,if_pos hlt],hs.symm⟩
  ·exact⟨d,by rw [List.getElem?_set,if_neg e];exact hk,rfl⟩
 refine⟨?_,?_,fun k d hk=>?_,fun k=>?_,fun i k d e hi hk hik=>?_,hO.cnt⟩
 ·show h.tk.length=(h.S.set j (some c)).length
  rw [List.length_set];exact hO.ltk
 ·show (h.S.set j (some c)).length<=65536
  rw [List.length_set];exact hO.le
 ·obtain⟨d',h1,h2,h3⟩:=key k d hk;have h4:=hO.blk k d' h1;refine⟨?_,by show _<=(h.S.set j (some c)).length;rw [List.length_set];omega⟩
  rcases h3 with h3 | h3
  ·exact h3
  ·rw [<- h3];exact h4.1
 ·show h.tk[k]? =some true↔∃ j_ b_,(h.S.set j (some c))[j_]? =some (some b_)/\j_<=k/\k < j_+b_.size
  rw [hO.tkn k]
  constructor
  ·rintro⟨i,d,h1,h2,h3⟩;obtain⟨d',h4,h5⟩:=key2 i d h1;exact⟨i,d',h4,h2,by omega⟩
  ·rintro⟨i,d,h1,h2,h3⟩;obtain⟨d',h4,h5,_⟩:=key i d h1;exact⟨i,d',h4,h2,by omega⟩
 ·obtain⟨d',h1,h2,_⟩:=key i d hi;obtain⟨e',h3,h4,_⟩:=key k e hk;have:=hO.dis i k d' e' h1 h3 hik;omega
theorem HS.Ok.reuse (hO: h.Ok) (w: Wd) (s: ByteArray) (l: List Wd):(h.reuse w s l).1.Ok:=by
 unfold HS.reuse
 split
 ·rename_i s0 l0 hb
  repeat' split
  all_goals try exact hO
  rename_i hl
  have hl: l.length=l0.length:=Classical.byContradiction fun e=>hl e;have hj:=(ar hb).2.2.2.1;have h0: l0.length<=64:=(hO.blk _ _ hj).1;exact setB_ok hO hj (by show l0.length+1=l.length+1;omega) (by show l.length<=64;omega)
 ·exact hO
theorem DI.reuse {s s0: ByteArray} {args l0: List Wd} (hd: DI h (w::(args++ws)) bs) (hb: atS h.S w=some (.fn s0 l0)) (ho: w.one=true) (hs: nmB s=true) (hl: args.length=l0.length): ∃ h',h.reuse w s args=(h',(w,0))/\DI h' (ws++ [w]++l0) bs:=by
 have hj:=(ar hb).2.2.2.1;have hok:=hd.ok.reuse w s args;have e: h.reuse w s args=(h.setB w.n.toNat (.fn s args),(w,0)):=by
  unfold HS.reuse;rw [hb];dsimp only;rw [if_neg (by rw [ho];simp),if_neg (by rw [hs];simp),if_neg (by rw [hd.allW ((List.sublist_append_left _ _).trans (List.sublist_cons_self _ _))];simp),if_neg j0]
 rw [e] at hok;refine⟨_,e,?_⟩;refine hd.swap hj ?_ J hok (hd.bs_ne hj (fun _ e=>by cases e)) (fun _ _ e=>by cases e)
 show (args++(ws++ [w]++l0)).Perm (l0++(w::(args++ws)))
 have p1:(ws++ [w]++l0).Perm (l0++(w::ws)):=List.perm_append_comm.trans (List.Perm.append_left _ List.perm_append_comm);refine(List.Perm.append_left _ p1).trans ?_;rw [<- List.append_assoc];refine(List.perm_append_comm.append_right _).trans ?_;rw [List.append_assoc];refine List.Perm.append_left _ ?_;exact List.perm_middle
theorem fol_word {S: PS} (hr: ∀ w ∈ refsOf S,wordS S w=true): ∀(k: Nat) (w x: Wd),wordS S w=true->folS S k w=(x,true)->wordS S x=true
 | 0,w,x,hw,h=>by rw [folS] at h;cases h
 | k+1,w,x,hw,h=>by
  rw [folS] at h
  split at h
  ·rename_i y ys hk hb
   refine fol_word hr k _ x ?_ h;have hy:=hr y (bW.2 ⟨_,_,(ar hb).2.2.2.1,List.mem_cons_self⟩);unfold nxtW
   split
   ·rename_i hrf
    refine ez (S:=S) (S':=S) (w:=⟨y.tag,y.n,y.s,y.one&&w.one⟩) (fun b hb=>⟨b,hb⟩) ?_;unfold wordS at hy ⊢;unfold refB at hrf;simp only [Bool.or_eq_true,decide_eq_true_eq] at hrf;rw [if_neg j0,if_neg j0,if_neg j0] at hy;rw [if_neg (by show ¬ y.tag=1;omega),if_neg (by show ¬ y.tag=2;omega),if_neg (by show ¬ y.tag=3;omega)];exact hy
   ·exact hy
  ·injection h with h1 _
   rw [<- h1];exact hw
theorem unb_follow {S: PS} {v: Wd} (h: Unb S v): followS S v=(v,true):=by
 unfold followS;rw [folS,h.2.2]
theorem unb_value {S: PS} {v: Wd} (h: Unb S v): valueS S v=(v,0):=by
 unfold valueS;rw [if_neg (by rw [co h.2.2];simp),unb_follow h];dsimp only;rw [if_neg j3,if_neg (by rw [co h.2.2];simp)]
theorem da {S: PS}: ∀(k: Nat) (w x: Wd),folS S k w=(x,true)->∀ y ys hk,atS S x≠some (.var (y::ys) hk)
 | 0,w,x,h=>by rw [folS] at h;cases h
 | k+1,w,x,h=>by
  rw [folS] at h
  split at h
  ·exact da k _ x h
  ·rename_i hn
   injection h with h1 _
   subst h1;intro y ys hk e;exact hn y ys hk e
theorem read_var {S: PS} {w: Wd} {T: Tm} (hr: readS S w=(T,0)):(followS S w).2=true/\∀ hk,atS S (followS S w).1=some (.var [] hk)->T=.mk 1 (followS S w).1.n ⟨#[]⟩ []:=by
 unfold readS at hr
 split at hr
 ·cases hr
 ·split at hr
  ·rename_i t ht
   injection hr with hr _
   subst hr;rw [show (600: Nat)=599+1 from rfl,rdS] at ht;dsimp only at ht
   split at ht
   ·cases ht
   ·rename_i h1
    have h2:(followS S w).2=true:=by
     cases e:(followS S w).2 with
     | true=>rfl
     | false=>exact absurd (.inl e) h1
    refine⟨h2,fun hk ha=>?_⟩;have h4:=(ar ha).2.2.2.2;have h4:(followS S w).1.tag=4:=h4;rw [if_neg j0,if_neg j0,if_neg j0,ha] at ht;exact(Option.some.inj ht).symm
  ·cases hr
theorem set_self {α: Type} {l: List α} {j: Nat} {x: α} (h: l[j]? =some x): l.set j x=l:=by
 apply List.ext_getElem?
 intro k;rw [List.getElem?_set]
 split
 ·rename_i e
  subst e;rw [if_pos (List.getElem?_eq_some_iff.1 h).1,h]
 ·rfl
theorem DI.bind {T: Tm} (hd: DI h (y::ws) (v::bs)) (hr: readS h.S y=(T,0)) (hne: T.kind=1->T.n≠v.n): ∃ h',h.bind v y=(h',([],0))/\h'=h.setB v.n.toNat (.var [y] [])/\DI h' ws bs:=by
 have hv:=hd.bv v List.mem_cons_self;obtain⟨g1,g2,g3,g4,g5⟩:=ar hv.2.2;obtain⟨hf,hvar⟩:=read_var hr;have hyw:=hd.wv y List.mem_cons_self;have hfw: wordS h.S (followS h.S y).1=true:=fol_word hd.rv _ y _ hyw (Prod.ext J hf);have hval: valueS h.S y=((followS h.S y).1,0):=by
  unfold valueS;rw [if_neg (by rw [hyw];simp)];dsimp only;rw [if_neg (by rw [hf];simp),if_neg (by rw [hfw];simp)]
 have hopen: openS h.S v=(some v.n.toNat,0):=by
  unfold openS;rw [unb_value hv];dsimp only;rw [if_neg j3,hv.2.2]
 have hhk: hooksAt h.S v.n.toNat= []:=by
  unfold hooksAt;rw [List.getD_eq_getElem?_getD,g4];rfl
 have hok:=hd.ok.bind v y;have e: h.bind v y=(h.setB v.n.toNat (.var [y] []),([],0)):=by
  unfold HS.bind;rw [hopen,hval];dsimp only;rw [if_neg j3,if_neg j3]
  cases ha: atS h.S (followS h.S y).1 with
  | none=>dsimp only;rw [hhk]
  | some b =>
   cases b with
   | fn s l=>dsimp only;rw [hhk]
   | vec l=>dsimp only;rw [hhk]
   | var to hk =>
    dsimp only;obtain⟨q1,q2,q3,q4,q5⟩:=ar ha;have hk0:=hd.hk _ _ _ q4;have hto: to= []:=by
     cases to with
     | nil=>rfl
     | cons z zs=>exact absurd ha (da _ _ _ (Prod.ext J hf) z zs hk)
    subst hto hk0;have hT:=hvar _ ha;have hne':(followS h.S y).1.n≠v.n:=by
     have:=hne (by rw [hT];rfl);rw [hT] at this;exact this
    rw [if_neg j0,hhk];have hset: h.setB (followS h.S y).1.n.toNat (.var [] [])=h:=by
     unfold HS.setB;rw [set_self q4]
    rw [show addG [] []= [] from rfl,if_neg j3,hset]
 rw [e] at hok;refine⟨_,e,rfl,?_⟩;have hbd:=List.pairwise_cons.1 hd.bd;have hd2: DI h (y::ws) bs:=⟨hd.ok,hd.wv,hd.rv,hd.pw,fun z hz=>hd.bv z (List.mem_cons_of_mem _ hz),hbd.2,hd.hk⟩;refine hd2.swap g4 ?_ J hok (fun z hz e=>hbd.1 z hz j0) (fun _ _ e=>by injection e with _ e;exact e.symm)
 show ([y]++ws).Perm ([]++y::ws)
 exact List.Perm.refl _
theorem DI.update1 {l: List Wd} {i: Int} (hd: DI h (w::y::ws) bs) (hb: atS h.S w=some (.vec l)) (ho: w.one=true) (hi: 0<=i/\i < l.length): ∃ h',h.update w i y=(h',(w,l.getD i.toNat Wd.zero,true,0))/\h'=h.setB w.n.toNat (.vec (l.set i.toNat y))/\DI h' (ws++ [w,l.getD i.toNat Wd.zero]) bs:=by
 have hj:=(ar hb).2.2.2.1;have hyw:=hd.wv y (List.mem_cons_of_mem _ List.mem_cons_self);have hok:=hd.ok.update w i y;have e: h.update w i y=(h.setB w.n.toNat (.vec (l.set i.toNat y)),(w,l.getD i.toNat Wd.zero,true,0)):=by
  unfold HS.update;rw [hb];dsimp only;rw [if_neg j0,if_neg (by rw [hyw];simp),if_pos ho]
 rw [e] at hok;refine⟨_,e,rfl,?_⟩;refine hd.swap hj ?_ J hok (hd.bs_ne hj (fun _ e=>by cases e)) (fun _ _ e=>by cases e);have hlt: i.toNat < l.length:=by omega
 show (l.set i.toNat y++(ws++ [w,l.getD i.toNat Wd.zero])).Perm (l++(w::y::ws))
 have hg: l.getD i.toNat Wd.zero=l[i.toNat]:=by rw [List.getD_eq_getElem?_getD,List.getElem?_eq_getElem hlt];rfl
 rw [hg];have p1:(ws++ [w,l[i.toNat]]).Perm (l[i.toNat]::(w::ws)):=List.perm_append_comm.trans (List.Perm.swap _ _ _);refine(List.Perm.append_left _ p1).trans ?_;refine List.perm_middle.trans ?_;have p2:(l[i.toNat]::(l.set i.toNat y)).Perm (y::l):=by
  have a1:(l.set i.toNat y).Perm (y::l.eraseIdx i.toNat):=by
   have:=bC (l:=l.set i.toNat y) (i:=i.toNat) (by rw [List.length_set];exact hlt);rw [List.getElem_set_self,List.eraseIdx_set_eq] at this;exact this.symm
  have a2:(l[i.toNat]::l.eraseIdx i.toNat).Perm l:=bC hlt;exact(List.Perm.cons _ a1).trans ((List.Perm.swap _ _ _).trans (List.Perm.cons _ a2))
 refine List.Perm.trans (l₂:=(y::l)++(w::ws)) ?_ ?_
 ·rw [<- List.cons_append];exact p2.append_right _
 ·rw [List.cons_append];refine List.perm_middle.symm.trans ?_;exact List.Perm.append_left _ (List.Perm.swap _ _ _)
end
end Go.Vk
namespace Go.Vk
def refTo (a: Int) (w: Wd): Bool:=refB w&&decide (w.n=a)
theorem bQ {a: Int} {w: Wd}: refTo a w=true↔refB w=true/\w.n=a:=by
 unfold refTo;rw [Bool.and_eq_true,decide_eq_true_eq]
theorem dq {l: List Wd} {p: Wd->Bool} (h: ∀ w ∈ l,p w=false): l.countP p=0:=by
 rw [List.countP_eq_zero];intro w hw e;rw [h w hw] at e;cases e
theorem pw_one {a: Int}: ∀ {l: List Wd},l.Pairwise Sep->(∃ w ∈ l,refTo a w=true/\w.one=true)->l.countP (refTo a)<=1
 | [],_,⟨w,hw,_⟩=>by cases hw
 | x::l,h,⟨w,hw,h1,h2⟩=>by
  rw [List.pairwise_cons] at h;rw [List.countP_cons]
  by_cases hx: refTo a x=true
  ·obtain⟨x1,x2⟩:=bQ.1 hx;have h0: l.countP (refTo a)=0:=dq fun z hz=>by
    cases hq: refTo a z with
    | false=>rfl
    | true =>
     exfalso
     obtain⟨z1,z2⟩:=bQ.1 hq;have h3:=h.1 z hz x1 z1 j0
     rcases List.mem_cons.1 hw with rfl | hw
     ·rw [h2] at h3;exact absurd h3.1 j3
     ·obtain⟨w1,w2⟩:=bQ.1 h1;have h4:=(h.1 w hw x1 w1 j0).2;rw [h2] at h4;cases h4
   rw [h0,if_pos hx];exact Nat.le_refl _
  ·rw [if_neg hx]
   rcases List.mem_cons.1 hw with rfl | hw
   ·exact absurd h1 hx
   ·have:=pw_one h.2 ⟨w,hw,h1,h2⟩;omega
theorem note_fold {n: Nat}: ∀(l: List Wd) (c: List Int × List Bool),c.1.length=n->c.2.length=n->(∀ w ∈ l,refB w=true->0<=w.n/\w.n < n)->∀ j: Nat,j < n->(l.foldl noteW c).1.getD j 0=c.1.getD j 0+((l.countP (refTo j): Nat): Int)/\((l.foldl noteW c).2.getD j false=true->c.2.getD j false=true\/∃ w ∈ l,refTo j w=true/\w.one=true)
 | [],c,_,_,_,j,_=>⟨by simp,fun h=>.inl h⟩
 | w::l,c,h1,h2,hl,j,hj=>by
  have ih:=note_fold l (noteW c w) (by rw [dU];exact h1) (by rw [dV];exact h2) (fun z hz=>hl z (List.mem_cons_of_mem _ hz)) j hj;rw [List.foldl_cons,List.countP_cons];have key:(noteW c w).1.getD j 0=c.1.getD j 0+(if refTo j w=true then 1 else 0)/\((noteW c w).2.getD j false=true->c.2.getD j false=true\/(refTo j w=true/\w.one=true)):=by
   unfold noteW
   by_cases hr: refB w=true
   ·have hb:=hl w List.mem_cons_self hr;rw [if_pos hr];dsimp only
    by_cases hn: w.n=(j: Int)
    ·have e: w.n.toNat=j:=by omega
     have ht: refTo j w=true:=bQ.2 ⟨hr,hn⟩;rw [if_pos ht,e];refine⟨?_,fun h=>?_⟩
     ·rw [List.getD_eq_getElem?_getD,List.getElem?_set,if_pos J,if_pos j0];rfl
     ·rw [List.getD_eq_getElem?_getD,List.getElem?_set,if_pos J,if_pos j0] at h;simp only [Option.getD_some,Bool.or_eq_true] at h
      rcases h with h | h
      ·exact .inl h
      ·exact .inr ⟨ht,h⟩
    ·have e: w.n.toNat≠j:=by omega
     have ht: ¬ refTo j w=true:=fun e=>hn (bQ.1 e).2;rw [if_neg ht];refine⟨?_,fun h=>.inl ?_⟩
     ·rw [List.getD_eq_getElem?_getD,List.getElem?_set,if_neg e,<- List.getD_eq_getElem?_getD,Int.add_zero]
     ·rw [List.getD_eq_getElem?_getD,List.getElem?_set,if_neg e,<- List.getD_eq_getElem?_getD] at h;exact h
   ·have ht: ¬ refTo j w=true:=fun e=>hr (bQ.1 e).1;rw [if_neg hr,if_neg ht];exact⟨by omega,fun h=>.inl h⟩
  refine⟨?_,fun h=>?_⟩
  ·rw [ih.1,key.1]
   split <;> omega
  ·rcases ih.2 h with h3 |⟨z,hz,h3⟩
   ·rcases key.2 h3 with h4 | h4
    ·exact .inl h4
    ·exact .inr ⟨w,List.mem_cons_self,h4⟩
   ·exact .inr ⟨z,List.mem_cons_of_mem _ hz,h3⟩
theorem noteL_fold {S: PS}: ∀(l: List Wd) (c: List Int × List Bool),(∀ w ∈ l,wordS S w=true)->noteL S c l=some (l.foldl noteW c)
 | [],c,_=>rfl
 | w::l,c,h=>by
  rw [noteL,if_neg (by rw [h w List.mem_cons_self];simp),List.foldl_cons];exact noteL_fold l _ (fun z hz=>h z (List.mem_cons_of_mem _ hz))
theorem noteB_fold {S: PS}: ∀(js: List Nat) (c: List Int × List Bool),(∀ j ∈ js,∀ w ∈ wordsAt S j,wordS S w=true)->noteB S c js=some ((js.flatMap (wordsAt S)).foldl noteW c)
 | [],c,_=>rfl
 | j::js,c,h=>by
  rw [noteB,noteL_fold _ _ (h j List.mem_cons_self)];dsimp only;rw [noteB_fold js _ (fun i hi=>h i (List.mem_cons_of_mem _ hi)),List.flatMap_cons,List.foldl_append]
theorem ex {S: PS}: ∀(k: Nat) (met: List Bool) (out: List Nat) (st: List Wd),met.length=S.length->out.Nodup->(∀ j ∈ out,met.getD j false=true)->(walkS S k met out st).Nodup
 | 0,met,out,st,h1,h2,h3=>by cases st <;>(rw [walkS];exact h2)
 | k+1,met,out, [],h1,h2,h3=>by rw [walkS];exact h2
 | k+1,met,out,w::st,h1,h2,h3=>by
  cases ha: atS S w with
  | none=>rw [cK ha];exact ex k met out st h1 h2 h3
  | some b =>
   cases hm: met.getD w.n.toNat false with
   | true=>rw [dC ha hm];exact ex k met out st h1 h2 h3
   | false =>
    rw [dD ha hm];have hlt: w.n.toNat < met.length:=by
     have:=ar ha;omega
    refine ex k _ _ _ (by rw [List.length_set];exact h1) ?_ (fun j hj=>?_)
    ·rw [List.nodup_append];refine⟨h2,List.pairwise_singleton _ _,fun x hx y hy e=>?_⟩;rw [List.mem_singleton] at hy;subst hy e;rw [h3 _ hx] at hm;cases hm
    ·rw [List.getD_eq_getElem?_getD,List.getElem?_set]
     split
     ·rfl
     ·rename_i e
      rcases List.mem_append.1 hj with hj | hj
      ·rw [<- List.getD_eq_getElem?_getD];exact h3 j hj
      ·rw [List.mem_singleton] at hj;exact absurd hj.symm e
theorem blocksS_nodup (S: PS) (roots: List Wd):(blocksS S roots).Nodup:=ex _ _ _ _ (List.length_replicate) List.nodup_nil (fun j hj=>by cases hj)
theorem cL (S: PS) (j: Nat): wordsAt S j=wdsO (S.getD j none):=by
 unfold wordsAt wdsO
 cases S.getD j none <;> rfl
theorem wordsAt_other {S: PS} {i j: Nat} {o: Option PB} (h: i≠j): wordsAt (S.set j o) i=wordsAt S i:=by
 rw [cL,cL,List.getD_eq_getElem?_getD,List.getElem?_set,if_neg (fun e=>h e.symm),<- List.getD_eq_getElem?_getD]
theorem flatMap_congr' {α β: Type} {f g: α->List β}: ∀ {l: List α},(∀ x ∈ l,f x=g x)->l.flatMap f=l.flatMap g
 | [],_=>rfl
 | x::l,h=>by rw [List.flatMap_cons,List.flatMap_cons,h x List.mem_cons_self,flatMap_congr' fun y hy=>h y (List.mem_cons_of_mem _ hy)]
theorem fy: ∀(js: List Nat) (S: PS),js.Nodup->∃ rest,(refsOf S).Perm (js.flatMap (wordsAt S)++rest)
 | [],S,_=>⟨refsOf S,List.Perm.refl _⟩
 | j::js,S,h=>by
  rw [List.nodup_cons] at h
  cases hj: S[j]? with
  | none =>
   obtain⟨rest,hr⟩:=fy js S h.2;refine⟨rest,?_⟩;have e: wordsAt S j= []:=by rw [cL,List.getD_eq_getElem?_getD,hj];rfl
   rw [List.flatMap_cons,e];exact hr
  | some o =>
   obtain⟨rest,hr⟩:=fy js (S.set j none) h.2;refine⟨rest,?_⟩;have e: wordsAt S j=wdsO o:=by rw [cL,List.getD_eq_getElem?_getD,hj];rfl
   rw [List.flatMap_cons,e,List.append_assoc,<- flatMap_congr' (f:=wordsAt (S.set j none)) fun i hi=>wordsAt_other (fun e=>h.1 (by rw [<- e];exact hi))];exact(bG hj).trans (List.Perm.append_left _ hr)
section
variable {h h': HS} {ws ws' bs bs' pool pool': List Wd} {w v x y u: Wd}
theorem bs_count {a: Int}: ∀ {bs: List Wd},bs.Pairwise (fun x y=>x.n≠y.n)->bs.countP (refTo a)<=1
 | [],_=>Nat.zero_le _
 | x::l,h=>by
  rw [List.pairwise_cons] at h;rw [List.countP_cons]
  by_cases hx: refTo a x=true
  ·have h0: l.countP (refTo a)=0:=dq fun z hz=>by
    cases hq: refTo a z with
    | false=>rfl
    | true=>exact absurd ((bQ.1 hx).2.trans (bQ.1 hq).2.symm) (h.1 z hz)
   rw [h0,if_pos hx];exact Nat.le_refl _
  ·rw [if_neg hx];have:=bs_count (a:=a) h.2;omega
theorem DI.audit (hd: DI h ws bs): auditS h.S (ws++bs)=0:=by
 have hall: ∀ z ∈ ws++bs,wordS h.S z=true:=fun z hz=>by
  rcases List.mem_append.1 hz with hz | hz
  ·exact hd.wv z hz
  ·exact co (hd.bv z hz).2.2
 have ha: allS h.S (ws++bs)=true:=List.all_eq_true.2 hall;have hbw: ∀ j ∈ blocksS h.S (ws++bs),∀ z ∈ wordsAt h.S j,wordS h.S z=true:=fun j hj z hz=>by
  obtain⟨b,hb⟩:=cH hj;rw [d7 hb] at hz;exact hd.rv z (bW.2 ⟨j,b,hb,hz⟩)
 refine audit_ok ha (noteB_fold _ _ hbw) (fun k j hk=>?_);have hjm:=List.mem_of_getElem? hk;obtain⟨b,hb⟩:=cH hjm;have hjl:=(List.getElem?_eq_some_iff.1 hb).1;unfold c0S;rw [<- List.foldl_append];obtain⟨rest,hrest⟩:=fy (blocksS h.S (ws++bs)) h.S (blocksS_nodup _ _)
 generalize hfl:(blocksS h.S (ws++bs)).flatMap (wordsAt h.S)=fl at hrest ⊢
 have hfv: ∀ z ∈ fl,wordS h.S z=true:=fun z hz=>hd.rv z (hrest.mem_iff.2 (List.mem_append_left _ hz));have hn:=note_fold (n:=h.S.length) (ws++bs++fl) (List.replicate h.S.length 0,List.replicate h.S.length false) List.length_replicate List.length_replicate (fun z hz hr=>by
  rcases List.mem_append.1 hz with hz | hz
  ·exact dE (hall z hz) hr
  ·exact dE (hfv z hz) hr) j hjl
 have hpw:(ws++fl).Pairwise Sep:=by
  have h1:(ws++(fl++rest)).Pairwise Sep:=cc (List.Perm.append_left _ hrest) hd.pw;rw [<- List.append_assoc] at h1;exact h1.sublist (List.sublist_append_left _ _)
 unfold badAt;rw [Bool.and_eq_false_iff,decide_eq_false_iff_not]
 cases hc:((ws++bs++fl).foldl noteW (List.replicate h.S.length 0,List.replicate h.S.length false)).2.getD j false with
 | false=>exact .inl J
 | true =>
  right
  have h0:(List.replicate h.S.length (0: Int)).getD j 0=0:=by rw [List.getD_eq_getElem?_getD,List.getElem?_replicate];split <;> rfl
  have h0':(List.replicate h.S.length false).getD j false=false:=by rw [List.getD_eq_getElem?_getD,List.getElem?_replicate];split <;> rfl
  rw [hn.1,h0]
  rcases hn.2 hc with h1 |⟨z,hz,h1,h2⟩
  ·rw [h0'] at h1;cases h1
  ·have hz2: z ∈ ws++fl:=by
    rcases List.mem_append.1 hz with hz | hz
    ·rcases List.mem_append.1 hz with hz | hz
     ·exact List.mem_append_left _ hz
     ·rw [(hd.bv z hz).2.1] at h2;cases h2
    ·exact List.mem_append_right _ hz
   have hone:=pw_one hpw ⟨z,hz2,h1,h2⟩;rw [List.countP_append] at hone;rw [List.countP_append,List.countP_append];have hbc:=bs_count (a:=(j: Int)) hd.bd
   by_cases hb0: bs.countP (refTo j)=0
   ·have hm: 1<=mostS h.S j:=by
     unfold mostS;rw [List.getD_eq_getElem?_getD,hb]
     show 1<=(match some b with | some (.var [] _)=>(2: Int) | _=>1)
     split <;> omega
    omega
   ·have hm: mostS h.S j=2:=by
     have: ∃ q ∈ bs,refTo j q=true:=by
      refine Classical.byContradiction fun hno=>hb0 (dq fun q hq=>?_)
      cases e: refTo j q with
      | false=>rfl
      | true=>exact absurd ⟨q,hq,e⟩ hno
     obtain⟨q,hq,hq2⟩:=this;have hq3:=(ar (hd.bv q hq).2.2).2.2.2.1;have hq4:=(bQ.1 hq2).2;rw [show q.n.toNat=j by omega] at hq3;unfold mostS;rw [List.getD_eq_getElem?_getD,hq3];rfl
    omega
theorem DI.shareB {l: List Wd} (hd: DI h pool bs) {j: Nat} (hj: h.S[j]? =some (some (.vec l))): DI (h.setB j (.vec (l.map shW))) (l.map shW++pool) bs:=by
 have hlt:=(List.getElem?_eq_some_iff.1 hj).1;have hsp:=bG hj;have hst:=dg (some (.vec (l.map shW))) hlt;have hS':(h.setB j (.vec (l.map shW))).S=h.S.set j (some (.vec (l.map shW))):=rfl;have hl64: l.length<=64:=(hd.ok.blk _ _ hj).1;have hok:=setB_ok (c:=.vec (l.map shW)) hd.ok hj (by show l.length+1=(l.map shW).length+1;rw [List.length_map]) (by show (l.map shW).length<=64;rw [List.length_map];exact hl64);have hlw: ∀ z ∈ l.map shW,wordS h.S z=true:=fun z hz=>by
  obtain⟨q,hq,rfl⟩:=List.mem_map.1 hz;exact gt (hd.rv q (hsp.mem_iff.2 (List.mem_append_left _ hq)))
 refine⟨hok,fun z hz=>?_,fun z hz=>?_,?_,fun z hz=>(hd.bv z hz).del (hd.bs_ne hj (fun _ e=>by cases e) z hz),hd.bd,fun i to hk hi=>?_⟩
 ·rw [hS'];refine cG hj J ?_
  rcases List.mem_append.1 hz with hz | hz
  ·exact hlw z hz
  ·exact hd.wv z hz
 ·rw [hS'] at hz ⊢;refine cG hj J ?_
  rcases List.mem_append.1 (hst.mem_iff.1 hz) with hz | hz
  ·exact hlw z hz
  ·exact hd.rv z (hsp.mem_iff.2 (List.mem_append_right _ hz))
 ·rw [hS'];have h1:(l++(pool++refsOf (h.S.set j none))).Pairwise Sep:=by
   refine cc ?_ hd.pw;refine(List.Perm.append_left _ hsp).trans ?_
   show (pool++(l++_)).Perm (l++(pool++_))
   rw [<- List.append_assoc,<- List.append_assoc];exact List.perm_append_comm.append_right _
  refine cc ?_ (pw_shall h1);refine List.Perm.trans ?_ (List.Perm.append_left _ hst.symm)
  show (l.map shW++(l.map shW++(pool++_))).Perm (l.map shW++pool++(l.map shW++_))
  rw [List.append_assoc];refine List.Perm.append_left _ ?_;rw [<- List.append_assoc,<- List.append_assoc];exact List.perm_append_comm.append_right _
 ·rw [hS'] at hi
  rcases bm hi with ⟨_,e⟩ |⟨_,h4⟩
  ·cases Option.some.inj e
  ·exact hd.hk i to hk h4
theorem set_perm {l: List Wd} {i: Nat} {y: Wd} (h: i < l.length):(l[i]::l.set i y).Perm (y::l):=by
 have a1:(l.set i y).Perm (y::l.eraseIdx i):=by
  have:=bC (l:=l.set i y) (i:=i) (by rw [List.length_set];exact h);rw [List.getElem_set_self,List.eraseIdx_set_eq] at this;exact this.symm
 exact(List.Perm.cons _ a1).trans ((List.Perm.swap _ _ _).trans (List.Perm.cons _ (bC h)))
theorem DI.update2 {l: List Wd} {i: Int} (hd: DI h (w::y::ws) bs) (hb: atS h.S w=some (.vec l)) (ho: w.one=false) (hi: 0<=i/\i < l.length):((h.update w i y).2.2.2.2=0->(h.update w i y).2.2.2.1=false/\DI (h.update w i y).1 (ws++ [(h.update w i y).2.1,(h.update w i y).2.2.1]++ [w]) bs)/\(¬(h.update w i y).2.2.2.2=0->(h.update w i y).1=h):=by
 obtain⟨g1,g2,g3,g4,g5⟩:=ar hb;have hyw:=hd.wv y (List.mem_cons_of_mem _ List.mem_cons_self);have hlt: i.toNat < l.length:=by omega
 have hl64: l.length<=64:=(hd.ok.blk _ _ g4).1;obtain⟨b2,hb2⟩: ∃ b,b=PB.vec ((l.map shW).set i.toNat y):=⟨_,rfl⟩;have hbo: b2.ok:=by rw [hb2];show ((l.map shW).set i.toNat y).length<=64;rw [List.length_set,List.length_map];exact hl64
 have e: h.update w i y=if (h.place b2).2 < 0 then (h,(Wd.zero,Wd.zero,false,210)) else ((h.place b2).1.setB w.n.toNat (.vec (l.map shW)),(⟨6,(h.place b2).2,⟨#[]⟩,true⟩,shW (l.getD i.toNat Wd.zero),false,0)):=by
  unfold HS.update;rw [hb];dsimp only;rw [if_neg j0,if_neg (by rw [hyw];simp),if_neg (by rw [ho];simp),<- hb2]
 rw [e]
 by_cases hp:(h.place b2).2 < 0
 ·rw [if_pos hp];exact⟨fun e=>absurd e (by show ¬(210: Int)=0;omega),fun _=>rfl⟩
 ·rw [if_neg hp];refine⟨fun _=>⟨rfl,?_⟩,fun e=>absurd J e⟩;dsimp only;obtain⟨n1,n2,n3⟩:=dN hd.ok hbo hp;have hd1:=hd.shareB g4;obtain⟨h1,hh1⟩: ∃ h1,h1=h.setB w.n.toNat (.vec (l.map shW)):=⟨_,rfl⟩;rw [<- hh1] at hd1;have hpl:(h1.place b2).2=(h.place b2).2:=by rw [bz,bz,hh1];rfl
  have hcm:(h1.place b2).1=(h.place b2).1.setB w.n.toNat (.vec (l.map shW)):=by
   have hp':=hp;rw [bz] at hp';unfold HS.place;dsimp only;rw [hh1,if_neg hp',if_neg (show ¬ findS (h.setB w.n.toNat (.vec (l.map shW))).tk b2.size < 0 from hp')];unfold HS.setB;dsimp only;rw [List.set_comm];intro ee;rw [bz] at n3;exact n3 (.vec l) (by rw [<- ee];exact g4)
  have hpool: DI h1 ((l.map shW).set i.toNat y++(shW (l.getD i.toNat Wd.zero)::w::ws)) bs:=by
   refine hd1.perm ?_;have hlm: i.toNat <(l.map shW).length:=by rw [List.length_map];exact hlt
   have hg: shW (l.getD i.toNat Wd.zero)=(l.map shW)[i.toNat]:=by rw [List.getElem_map,List.getD_eq_getElem?_getD,List.getElem?_eq_getElem hlt];rfl
   rw [hg];have p1:(l.map shW++(w::y::ws)).Perm ((y::l.map shW)++(w::ws)):=by
    rw [List.cons_append];refine List.Perm.trans (List.Perm.append_left _ (List.Perm.swap _ _ _)) ?_;exact List.perm_middle
   refine p1.trans ?_;refine((set_perm hlm).symm.append_right _).trans ?_;rw [List.cons_append];exact List.perm_middle.symm
  have:=DI.place hpool hbo (by rw [hb2];rfl) (fun _ _ e=>by rw [hb2] at e;cases e) (by rw [hpl];exact hp);rw [hcm,hpl] at this;rw [hb2] at this ⊢;refine this.perm ?_;refine List.Perm.trans ?_ (List.perm_append_comm (l₁:= [w]) (l₂:=ws++ [_,_]));refine List.Perm.trans ?_ (List.Perm.cons _ (List.perm_append_comm (l₁:= [_,_]) (l₂:=ws)));exact(List.Perm.cons _ (List.Perm.swap _ _ _)).trans (List.Perm.swap _ _ _)
end
end Go.Vk
namespace Go.Vk
open Go.RowKit
def takeP (ws: List Wd) (k: Int): Wd × List Wd:=if ws= [] then (⟨1,ixZ k 100,⟨#[]⟩,false⟩, []) else (ws.getD (ixZ k ws.length).toNat Wd.zero,ws.eraseIdx (ixZ k ws.length).toNat)
def shareP (ws: List Wd) (k: Int): Wd × List Wd:=if ws= [] then (⟨2,0,⟨#[97]⟩,false⟩, []) else (shW (ws.getD (ixZ k ws.length).toNat Wd.zero),ws.set (ixZ k ws.length).toNat (shW (ws.getD (ixZ k ws.length).toNat Wd.zero)))
theorem takeP_nil (k: Int): takeP [] k=(⟨1,ixZ k 100,⟨#[]⟩,false⟩, []):=if_pos J
theorem shareP_nil (k: Int): shareP [] k=(⟨2,0,⟨#[97]⟩,false⟩, []):=if_pos J
theorem fP {ws: List Wd} {k: Int} {i: Nat} {x: Wd} (hi: ixZ k ws.length=(i: Int)) (hx: ws[i]? =some x): takeP ws k=(x,ws.eraseIdx i):=by
 unfold takeP;rw [if_neg (fun e=>by subst e;simp at hx),hi,Int.toNat_natCast,List.getD_eq_getElem?_getD,hx];rfl
theorem shareP_at {ws: List Wd} {k: Int} {i: Nat} {x: Wd} (hi: ixZ k ws.length=(i: Int)) (hx: ws[i]? =some x): shareP ws k=(shW x,ws.set i (shW x)):=by
 unfold shareP;rw [if_neg (fun e=>by subst e;simp at hx),hi,Int.toNat_natCast,List.getD_eq_getElem?_getD,hx];rfl
theorem bw (ws: List Wd) (k: Int):(takeP ws k).2.length<=ws.length:=by
 unfold takeP
 split
 ·exact Nat.zero_le _
 ·exact List.length_eraseIdx_le _ _
theorem shareP_len (ws: List Wd) (k: Int):(shareP ws k).2.length=ws.length:=by
 unfold shareP
 split
 ·rename_i h;rw [h]
 ·exact List.length_set
section
variable {h: HS} {ws bs pool: List Wd} {k: Int}
theorem ix100 (k: Int): 0<=ixZ k 100/\ixZ k 100 < 100:=by
 obtain⟨i,h1,h2⟩:=cI (k:=k) (n:=100) (m:=100) J j0;omega
theorem DI.take (hd: DI h (ws++pool) bs) (k: Int): DI h ((takeP ws k).1::((takeP ws k).2++pool)) bs:=by
 by_cases h0: ws= []
 ·subst h0;rw [takeP_nil];have:=ix100 k;refine hd.lit ?_ J;unfold wordS;rw [if_pos J];simp only [Bool.and_eq_true,decide_eq_true_eq];exact⟨⟨⟨by first | rfl | trivial,rfl⟩,by show -2147483647<=ixZ k 100;omega⟩,by show ixZ k 100<=2147483647;omega⟩
 ·have hl: 0 < ws.length:=List.length_pos_iff.2 h0;obtain⟨i,h1,h2⟩:=cI (k:=k) (n:=(ws.length: Int)) (m:=ws.length) J hl;rw [fP h1 (List.getElem?_eq_getElem h2)];refine hd.perm ?_;rw [<- List.cons_append];exact(bC h2).symm.append_right _
theorem DI.shareW (hd: DI h (ws++pool) bs) (k: Int): DI h ((shareP ws k).1::((shareP ws k).2++pool)) bs:=by
 by_cases h0: ws= []
 ·subst h0;rw [shareP_nil];exact hd.lit (by show wordS h.S ⟨2,0,⟨#[97]⟩,false⟩ =true;unfold wordS;rw [if_neg (by show ¬(2: Int)=1;omega),if_pos J];rfl) J
 ·have hl: 0 < ws.length:=List.length_pos_iff.2 h0;obtain⟨i,h1,h2⟩:=cI (k:=k) (n:=(ws.length: Int)) (m:=ws.length) J hl;rw [shareP_at h1 (List.getElem?_eq_getElem h2)];have p1:(ws++pool).Perm (ws[i]::(ws.eraseIdx i++pool)):=by
   rw [<- List.cons_append];exact(bC h2).symm.append_right _
  refine((hd.perm p1).share).perm (List.Perm.cons _ ?_);rw [<- List.cons_append];refine List.Perm.append_right _ ?_;have:=bC (l:=ws.set i (shW ws[i])) (i:=i) (by rw [List.length_set];exact h2)
  rwa [List.getElem_set_self,List.eraseIdx_set_eq] at this
end
def HD (q p: Nat) (ws bs: List Wd) (L: List Ent): Prop:= ∃(Aw: Option Addr) (cw: Nat) (Ab: Option Addr) (cb: Nat) (ew eb: Ent),L= [(some q,.cells #[.pointer (some ⟨p,0,none⟩),.slice Aw ws.length cw,.slice Ab bs.length cb,.bool true] 46 (0,0)),ew,eb]/\Row (.slice Aw ws.length cw) ew 35 4 ws.length (gfl Wd.cells ws)/\Row (.slice Ab bs.length cb) eb 35 4 bs.length (gfl Wd.cells bs)
def HM (q p: Nat) (ws bs: List Wd) (h: HS) (L: List Ent): Prop:= ∃ Lt Lh,L=Lt++Lh/\HD q p ws bs Lt/\HK p h Lh
theorem HM.blk {q p: Nat} {ws bs: List Wd} {h: HS} {L: List Ent} (hM: HM q p ws bs h L): ∃(A1: Option Addr) (n1 c1: Nat) (A2: Option Addr) (n2 c2: Nat),((some q,.cells #[.pointer (some ⟨p,0,none⟩),.slice A1 n1 c1,.slice A2 n2 c2,.bool true] 46 (0,0)): Ent) ∈ L:=by
 obtain⟨Lt,Lh,rfl,⟨Aw,cw,Ab,cb,ew,eb,rfl,_,_⟩,_⟩:=hM;exact⟨_,_,_,_,_,_,List.mem_append_left _ List.mem_cons_self⟩
theorem eM (ws: List Wd) (w: Wd) (e: Int):(holdP ws w e).length<=ws.length+1:=by
 unfold holdP
 split
 ·rw [List.length_append];exact Nat.le_refl _
 ·omega
theorem rowW_release {w0 w: World} {H0 H: PHeap} {L0 L: List Ent} {A: Option Addr} {c e: Nat} {en: Ent} {xs: List Wd} (hR: Row (.slice A xs.length c) en e 4 xs.length (gfl Wd.cells xs)) (hS: Step w0 H0 L0 w H (en::L)) (hl: xs.length<=1048576) :
  ∃ H',Step w0 H0 L0 w H' L/\Le H H'/\RowG 4 Wd.cells H' A c xs:=by
 by_cases hne: xs= []
 ·subst hne;exact⟨H,hS.drop,Le.refl _,Nat.zero_le _,by simp,0,0,0,#[],(0,0),fun hn=>absurd J hn,fun j x hj=>by simp at hj⟩
 ·have h0: 0 < xs.length:=List.length_pos_iff.2 hne;obtain⟨x0,b,cap,cur,hx0,hv,rfl,hc0⟩:=hR.getG Wd.len j4 (j:=0) h0;injection hv with e1 e2 e3
  subst e1 e3;obtain⟨hS2,hle⟩:=hS.release;refine⟨_,hS2,hle,Row.cap hR,hl,b,0,e,cur,(0,0),fun _=>⟨rfl,?_⟩,fun j x hj i u hu=>?_⟩
  ·unfold PHeap.put;simp
  ·obtain⟨x1,b1,cap1,cur1,hx1,hv1,he1,hc1⟩:=hR.getG Wd.len j4 (j:=j) (List.getElem?_eq_some_iff.1 hj).1;injection he1 with e4 e5
   injection e5 with e6
   subst e6;rw [hj] at hx1;obtain rfl:=Option.some.inj hx1;exact hc1 i u hu
end Go.Vk
namespace Go.Vk.Tryz
open Go.RowKit
theorem fq {w0: World} {H: PHeap} (hI: Inv w0 H []) {A: Option Addr} {c: Nat} {xs: List Wd} (hr: RdG 4 Wd.cells w0 [] A c xs): Calls prog 47 #[(.slice A xs.length c)] w0 (RW w0 H xs):=by
 have C:=Step.refl hI;have ae:=hr.hm;refine enter [(.slice A xs.length c)] func47 J ntmps47 J fun a q=>?_;refine wp_seq (ab (Ls J q fun a q=>?_));refine wpList_nil (aa (wp_seq (wp_seq (ab (Lm J q fun a q=>?_)))));refine lin J (o_eqnil T37.und q J J J fun a q=>?_);refine wpList_nil (aa (au (t:=4) q J (fun h1 q=>?_) (fun h1 q=>?_)))
 ·refine ap q J (wp_seq (ab (Ls J q fun a q=>?_)));refine wpList_nil (aa (wp_ret (ai (ret1 J q J ?_))));obtain rfl: A=none:=by simpa using h1
  obtain rfl: xs= []:=by
   obtain⟨b,af,e,a7,ac,a1,ad⟩:=hr.rd;exact Classical.byContradiction fun a3=>by have F:=(a1 a3).1;cases F
  exact⟨none,0,noEnt,rfl,Row.nil _ _,C.cons_none J⟩
 ·refine ah q J (wp_skip (aa (wp_seq (ab (lin J (aY (vs:= []) (cells:= []) T37.und T35 C q (q.evp J) J J J J fun T a w C q=>?_))))));refine Lm J q fun a q=>?_;obtain⟨V,a4,Y,X,Z,I,a0⟩:=hr.rd;refine lin J (aJ (news:=(gfl Wd.cells xs)) (xs:= []) T37.und T35 J J C (Row.empty T 35 4) q J J (aw Wd.len _) (fun O=>⟨V,a4,Y,X,Z,(I (fun F=>O (by rw [F];rfl))).1,C.keepN (I (fun F=>O (by rw [F];rfl))).2.1 (I (fun F=>O (by rw [F];rfl))).2.2,fun j u a2=>a8 Wd.len j4 a0 a2⟩) (aT Wd.one' _) j0 J J fun ag a9 a w G C q=>?_);rw [List.nil_append] at G;obtain⟨a5,a6,rfl⟩:=G.slice;refine Ls J q fun a q=>?_;refine wpList_nil (aa (wp_ret (ret1 J q J ?_)));rw [Nat.zero_add] at G;exact⟨_,_,_,by rw [Nat.zero_add],G,C⟩
theorem c_GrowW {w0: World} {H: PHeap} (hI: Inv w0 H []) {n: Int} (h0: 0<=n) (h1: n<=2513169434916): Calls prog 103 #[(.slice none 0 0),(iV n)] w0 (fun e w'=> ∃ A c en,e=.returned (.slice A 0 c)/\Row (.slice A 0 c) en 35 4 0 []/\Step w0 H [] w' H [en]):=by
 have F:=Step.refl hI;refine enter [(.slice none 0 0),(iV n)] func103 J ntmps103 J fun a C=>?_;refine wp_seq (ab (Ls J C fun a C=>?_));refine wpList_nil (aa (wp_seq (wp_seq (ab (Lm J C fun a C=>?_)))));refine lin J (bl (i:=n) (j:=0) C J J J fun a C=>?_);refine wpList_nil (aa (an (t:=6) C J (fun h1 C=>?_) (fun h1 C=>?_)))
 ·refine ap C J ?_
  exfalso;omega
 ·refine ah C J (wp_skip (aa (wp_seq (wp_seq (ab (Lm J C fun a C=>?_))))));refine Lm J C fun a C=>?_;refine lin J (o_cap T37.und C J J fun a C=>?_);refine Lm J C fun a C=>?_;refine lin J (aI T37.und C J J fun a C=>?_);refine lin J (cx (i:=((0: Nat): Int)) (j:=((0: Nat): Int)) C J J J j0 fun a C=>?_);refine lin J (cx (i:=n) (j:=(((0: Nat): Int) - ((0: Nat): Int))) C J J J j0 fun a C=>?_);refine Ls J C fun a C=>?_;refine wpList_nil (aa (wp_seq (ab (Lm J C fun a C=>?_))));refine lin J (cT (i:=(n - (((0: Nat): Int) - ((0: Nat): Int)))) (j:=0) C J J J fun a C=>?_);refine wpList_nil (aa (an (t:=16) C J (fun h2 C=>?_) (fun h2 C=>?_)))
  ·obtain⟨q,O⟩: ∃ q: Nat,(n - (((0: Nat): Int) - ((0: Nat): Int)))=((q: Nat): Int):=⟨((n - (((0: Nat): Int) - ((0: Nat): Int)))).toNat,by omega⟩;rw [O] at C;refine ap C J (ab (Lm J C fun a C=>?_));refine Lm J C fun a C=>?_;refine lin J (o_cap T37.und C J J fun a C=>?_);refine lin J (ej (h:=0) T37.und T35 C J J j0 j0 J fun a C=>?_);refine Lm J C fun a C=>?_;have F:=F.cons_none (en:=noEnt) J;refine lin J (o_appendZ (k:=q) (xs:= []) T37.und T3.und T35 J J J F (Row.nil 35 4) C J J j0 J J fun Y X a w G F C=>?_);rw [List.nil_append] at G;obtain⟨T,V,rfl⟩:=G.slice;refine Lm J C fun a C=>?_;refine lin J (aI T37.und C J J fun a C=>?_);refine lin J (ej (h:=0) T37.und T35 C J J j0 j0 J fun a C=>?_);have I:=Row.cut (k:=0) G j0
   first | rw [du Wd.len] at I | rw [Nat.zero_mul,List.take_zero] at I
   refine Ls J C fun a C=>?_;refine wpList_nil (aa (wp_seq (ab (Lm J C fun a C=>?_))));refine Ls J C fun a C=>?_;refine wpList_nil (aa (wp_ret (ret1 J C J ?_)));exact⟨_,_,_,rfl,I,F⟩
  ·refine ah C J (wp_skip (aa (wp_seq (ab (Lm J C fun a C=>?_)))));refine Ls J C fun a C=>?_;refine wpList_nil (aa (wp_ret (ret1 J C J ?_)));exact⟨none,0,noEnt,rfl,Row.nil _ _,F.cons_none J⟩
def pre2 {α: Type} (ts us: List α) (k: Nat): List α:=(if 1<=k then ts else [])++(if 2<=k then us else [])
theorem pre2_len {α: Type} (ts us: List α) (k: Nat):(pre2 ts us k).length<=ts.length+us.length:=by
 unfold pre2;rw [List.length_append]
 split <;> split <;> simp <;> omega
theorem pre2_2 {α: Type} (ts us: List α): pre2 ts us 2=ts++us:=by simp [pre2]
theorem c_ConcatW {w0: World} {H: PHeap} (hI: Inv w0 H []) {bb: Nat} {A: Option Addr} {c: Nat} {ws: List Wd} {A': Option Addr} {c': Nat} {us: List Wd} (hbb: H bb=some (.cells #[.slice A ws.length c,.slice A' us.length c'] 37 (0,0))) (hr: RdG 4 Wd.cells w0 [] A c ws) (hr': RdG 4 Wd.cells w0 [] A' c' us): Calls prog 52 #[(.slice (some ⟨bb,0,none⟩) 2 2)] w0 (RW w0 H (ws++us)):=by
 have C:=Step.refl hI;have bg:=hr.hm;have bh:=hr'.hm;refine enter [(.slice (some ⟨bb,0,none⟩) 2 2)] func52 J ntmps52 J fun a q=>?_;refine wp_seq (ab (Ls J q fun a q=>?_));refine wpList_nil (aa (wp_seq (ab (Ls J q fun a q=>?_))));refine wpList_nil (aa (wp_seq (wp_seq (ab (Lm J q fun a q=>?_)))));refine lin J (aI T145.und q J J fun a q=>?_);refine Lm J q fun a q=>?_;refine wpList_nil (aa (wp_block ?_));refine a6 (fun ai a w=> ∃(k: Nat),ai=2 - k/\Has [] a 36 [(0,(.slice (some ⟨bb,0,none⟩) 2 2)),(3,(iV (((pre2 ws us k).length: Nat): Int))),(9,(.slice (some ⟨bb,0,none⟩) 2 2)),(10,(iV ((2: Nat): Int))),(11,(iV ((k: Nat): Int)))]/\Step w0 H [] w H []/\(k<=2)) _ ⟨0,rfl,q.pk J,C,by omega⟩ ?_;intro bm a w ad;obtain⟨k,bi,q,C,b9⟩:=ad;refine wp_seq (ab (lin J (bl (i:=((k: Nat): Int)) (j:=((2: Nat): Int)) q J J J fun a q=>?_)));refine wpList_nil (aa (wp_seq (an (t:=12) q J (fun h2 q=>?_) (fun h2 q=>?_))))
 ·refine ap q J (wp_skip (aa (wp_seq ?_)))
  rcases (show k=0\/k=1 by omega) with rfl | rfl
  ·have ag:(pre2 ws us 0).length=0:=by simp [pre2]
   refine wp_block (wp_seq (ab (lin J (aC (b:=bb) (o:=0) (j:=0) T145.und T37 J q J J j0 j0 J fun a q=>?_))));refine lin J (af (v:=(.slice A ws.length c)) T37 J q J (C.blkH hbb) J J fun a q=>?_);refine Ls J q fun a q=>?_;refine wpList_nil (aa (wp_seq (ab (Lm J q fun a q=>?_))));refine Lm J q fun a q=>?_;refine lin J (aI T37.und q J J fun a q=>?_);refine lin J (aL (i:=(((pre2 ws us 0).length: Nat): Int)) (j:=((ws.length: Nat): Int)) q J J J j0 fun a q=>?_);refine Ls J q fun a q=>?_;refine wpList_nil (aa (wp_seq (ab (Lm J q fun a q=>?_))));refine lin J (bl (i:=((((pre2 ws us 0).length: Nat): Int)+((ws.length: Nat): Int))) (j:=0) q J J J fun a q=>?_);refine wpList_nil (aa (an (t:=20) q J (fun b5 q=>?_) (fun b5 q=>?_)))
   ·refine ap q J ?_
    exfalso;omega
   ·refine ah q J (wp_skip (ao (aa (ab (lin J (aL (i:=((0: Nat): Int)) (j:=1) q J J J j0 fun a q=>?_))))));refine Lm J q fun a q=>?_;refine wpList_nil (aa (?_));exact⟨2 - 1,by omega,1,rfl,Has.cons q J (Has.cons q (by simp [lk,Nat.beq,pre2]) (q.pk J)),C,j0⟩
  ·have ag:(pre2 ws us 1).length=ws.length:=by simp [pre2]
   refine wp_block (wp_seq (ab (lin J (aC (b:=bb) (o:=0) (j:=1) T145.und T37 J q J J j0 j0 J fun a q=>?_))));refine lin J (af (v:=(.slice A' us.length c')) T37 J q J (C.blkH hbb) J J fun a q=>?_);refine Ls J q fun a q=>?_;refine wpList_nil (aa (wp_seq (ab (Lm J q fun a q=>?_))));refine Lm J q fun a q=>?_;refine lin J (aI T37.und q J J fun a q=>?_);refine lin J (aL (i:=(((pre2 ws us 1).length: Nat): Int)) (j:=((us.length: Nat): Int)) q J J J j0 fun a q=>?_);refine Ls J q fun a q=>?_;refine wpList_nil (aa (wp_seq (ab (Lm J q fun a q=>?_))));refine lin J (bl (i:=((((pre2 ws us 1).length: Nat): Int)+((us.length: Nat): Int))) (j:=0) q J J J fun a q=>?_);refine wpList_nil (aa (an (t:=20) q J (fun b6 q=>?_) (fun b6 q=>?_)))
   ·refine ap q J ?_
    exfalso;omega
   ·refine ah q J (wp_skip (ao (aa (ab (lin J (aL (i:=((1: Nat): Int)) (j:=1) q J J J j0 fun a q=>?_))))));refine Lm J q fun a q=>?_;refine wpList_nil (aa (?_));exact⟨2 - 2,by omega,2,rfl,Has.cons q J (Has.cons q (by simp [lk,Nat.beq,pre2]) (q.pk J)),C,j0⟩
 ·refine ah q J (wp_exit (az (az (aN (aa (wp_seq (ab (Lm J q fun a q=>?_))))))));have bk:=pre2_len ws us k;refine lin J (Co func103 q J (c_GrowW (n:=(((pre2 ws us k).length: Nat): Int)) C.inv.nil j0 j0) ?_);rintro e w ⟨aj,ak,al,rfl,a9,b8⟩;refine⟨_,rfl,fun a q=>?_⟩;have C:=C.call_own b8;have a9: Row (.slice aj ([]: List Wd).length ak) al 35 4 ([]: List Wd).length (gfl Wd.cells []):=a9;refine Ls J q fun a q=>?_;refine wpList_nil (aa (wp_seq (wp_seq (ab (Lm J q fun a q=>?_)))));refine lin J (aI T145.und q J J fun a q=>?_);refine Lm J q fun a q=>?_;refine wpList_nil (aa (wp_block (a6 (fun ai a w=> ∃(I: Nat),∃(F: List Wd),∃(a4: Ent),∃(a0: Option Addr),∃(a3: Nat),ai=2 - I/\Has [] a 36 [(6,(.slice a0 F.length a3)),(25,(.slice (some ⟨bb,0,none⟩) 2 2)),(26,(iV ((2: Nat): Int))),(27,(iV ((I: Nat): Int)))]/\Step w0 H [] w H [a4]/\(Row (.slice a0 F.length a3) a4 35 4 F.length (gfl Wd.cells F))/\(F=pre2 ws us I)/\(I<=2)) _ ⟨0,([]: List Wd),al,aj,ak,rfl,q.pk J,C,(by simpa using a9),rfl,j0⟩ ?_)));intro bn a w ad;obtain⟨I,F,a4,a0,a3,bj,q,C,ac,hm,b9⟩:=ad;refine wp_seq (ab (lin J (bl (i:=((I: Nat): Int)) (j:=((2: Nat): Int)) q J J J fun a q=>?_)));refine wpList_nil (aa (wp_seq (an (t:=28) q J (fun b7 q=>?_) (fun b7 q=>?_))))
  ·refine ap q J (wp_skip (aa (wp_seq ?_)))
   rcases (show I=0\/I=1 by omega) with rfl | rfl
   ·have ag:(pre2 ws us 0).length=0:=by simp [pre2]
    have ba: F.length=_:=congrArg List.length hm;refine wp_block (wp_seq (ab (lin J (aC (b:=bb) (o:=0) (j:=0) T145.und T37 J q J J j0 j0 J fun a q=>?_))));refine lin J (af (v:=(.slice A ws.length c)) T37 J q J (C.blkH hbb) J J fun a q=>?_);refine Ls J q fun a q=>?_;refine wpList_nil (aa (ab (Lm J q fun a q=>?_)));refine Lm J q fun a q=>?_;obtain⟨am,bc,ay,ar,b1,a5,b3⟩:=hr.rd;refine lin J (aJ (news:=(gfl Wd.cells ws)) (xs:=(gfl Wd.cells F)) T37.und T35 J J C ac q J J (aw Wd.len _) (fun O=>⟨am,bc,ay,ar,b1,(a5 (fun G=>O (by rw [G];rfl))).1,C.keepN (a5 (fun G=>O (by rw [G];rfl))).2.1 (a5 (fun G=>O (by rw [G];rfl))).2.2,fun j u ae=>a8 Wd.len j4 b3 ae⟩) (aT Wd.one' _) j0 J J fun bp ax a w V C q=>?_);rw [<- aF] at V;obtain⟨Z,a2,rfl⟩:=V.slice;have X:(F.length+ws.length)=(F++ws).length:=by have G:=V.1;rw [aw Wd.len] at G;omega
    rw [show Value.slice Z (F.length+ws.length) a2=Value.slice Z (F++ws).length a2 from by rw [X]] at q;rw [X] at V;refine Ls J q fun a q=>?_;refine wpList_nil (ao (aa (ab (lin J (aL (i:=((0: Nat): Int)) (j:=1) q J J J j0 fun a q=>?_)))));refine Lm J q fun a q=>?_;refine wpList_nil (aa (?_));exact⟨2 - 1,by omega,1,(F++ws),ax,Z,a2,rfl,q.pk J,C,V,(by rw [hm];simp [pre2]),j0⟩
   ·have ag:(pre2 ws us 1).length=ws.length:=by simp [pre2]
    have ba: F.length=_:=congrArg List.length hm;refine wp_block (wp_seq (ab (lin J (aC (b:=bb) (o:=0) (j:=1) T145.und T37 J q J J j0 j0 J fun a q=>?_))));refine lin J (af (v:=(.slice A' us.length c')) T37 J q J (C.blkH hbb) J J fun a q=>?_);refine Ls J q fun a q=>?_;refine wpList_nil (aa (ab (Lm J q fun a q=>?_)));refine Lm J q fun a q=>?_;obtain⟨aq,bf,b0,au,b2,a7,b4⟩:=hr'.rd;refine lin J (aJ (news:=(gfl Wd.cells us)) (xs:=(gfl Wd.cells F)) T37.und T35 J J C ac q J J (aw Wd.len _) (fun O=>⟨aq,bf,b0,au,b2,(a7 (fun G=>O (by rw [G];rfl))).1,C.keepN (a7 (fun G=>O (by rw [G];rfl))).2.1 (a7 (fun G=>O (by rw [G];rfl))).2.2,fun j u ae=>a8 Wd.len j4 b4 ae⟩) (aT Wd.one' _) j0 J J fun bo av a w T C q=>?_);rw [<- aF] at T;obtain⟨Y,a1,rfl⟩:=T.slice;have X:(F.length+us.length)=(F++us).length:=by have G:=T.1;rw [aw Wd.len] at G;omega
    rw [show Value.slice Y (F.length+us.length) a1=Value.slice Y (F++us).length a1 from by rw [X]] at q;rw [X] at T;refine Ls J q fun a q=>?_;refine wpList_nil (ao (aa (ab (lin J (aL (i:=((1: Nat): Int)) (j:=1) q J J J j0 fun a q=>?_)))));refine Lm J q fun a q=>?_;refine wpList_nil (aa (?_));exact⟨2 - 2,by omega,2,(F++us),av,Y,a1,rfl,q.pk J,C,T,(by rw [hm];simp [pre2]),j0⟩
  ·refine ah q J (wp_exit (az (az (aN (aa (wp_seq (ab (Lm J q fun a q=>?_))))))));refine Ls J q fun a q=>?_;refine wpList_nil (aa (wp_ret (ret1 J q J ?_)));obtain rfl: I=2:=by omega
   rw [pre2_2] at hm;subst hm;exact⟨_,_,_,rfl,ac,C⟩
theorem c_ptake {w0: World} {H: PHeap} {q p: Nat} {ws bs: List Wd} {L: List Ent} (hI: Inv w0 H L) (hD: HD q p ws bs L) (hlw: ws.length<=100000) (hlb: bs.length<=100000) {k: Int}: Calls prog 14 #[(pB q),(iV k)] w0 (fun e w'=> ∃ L',e=.returned (wv (takeP ws k).1)/\HD q p (takeP ws k).2 bs L'/\Step w0 H L w' H L'):=by
 obtain⟨O,V,Ab,cb,b3,b0,rfl,X,a0⟩:=hD;have F:=Step.refl hI;have b5:=Row.cap X;have b4:=Row.cap a0;refine enter [(pB q),(iV k)] func14 J ntmps14 J fun a C=>?_;refine wp_seq (ab (lin J (aE (cs:= #[(iV 0),(iV 0),(.string (⟨#[]⟩)),(.bool false)]) T35 F C J J fun ax a w F C=>?_)));refine wpList_nil (aa (wp_seq (wp_seq (ab (Lm J C fun a C=>?_)))));refine lin J (av C J J fun a C=>?_);refine lin J (ac (f:=1) (o2:=1) T46 T37 J J J J C J J fun a C=>?_);refine lin J (af (v:=(.slice O ws.length V)) T37 J C J (F.blkL 1 J) J J fun a C=>?_);refine lin J (aI T37.und C J J fun a C=>?_);refine lin J (bn (i:=((ws.length: Nat): Int)) (j:=0) C J J J fun a C=>?_);refine wpList_nil (aa (an (t:=12) C J (fun a7 C=>?_) (fun a7 C=>?_)))
 ·refine ap C J (wp_seq (ab (Lm J C fun a C=>?_)));have aq:=dI (k:=k) (n:=100) F.inv.nil j0;refine lin J (Co func43 C J (aq) ?_);rintro e w ⟨rfl,G⟩;obtain⟨Y,a2⟩: ∃ i_: Int,ixZ k 100=i_:=⟨_,rfl⟩;have aj:=a2;rw [a2];refine⟨_,rfl,fun a C=>?_⟩;have F:=F.call G;refine lin J (aG (vs:= [(0,(iV 1)),(1,(iV Y))]) (cells:= [(iV 1),(iV Y),(.string (⟨#[]⟩)),(.bool false)]) T35 PL35 C (C.evp J) J J fun a C=>?_);refine lin J (ak (cs':= #[(iV 1),(iV Y),(.string (⟨#[]⟩)),(.bool false)]) T35 F (i:=0) J C J J J J J J fun a w F C=>?_);refine wpList_nil (aa (wp_ret (ai (retA (i:=0) (cs:= #[(iV 1),(iV Y),(.string (⟨#[]⟩)),(.bool false)]) J T35 J F J C J J ?_))));have F:=F.drop;obtain rfl: ws= []:=List.eq_nil_of_length_eq_zero j0;rw [takeP_nil];exact⟨_,by rw [aj],⟨_,_,_,_,_,_,rfl,X,a0⟩,F⟩
 ·refine ah C J (wp_skip (aa (wp_seq (ab (Lm J C fun a C=>?_)))));refine Lm J C fun a C=>?_;refine lin J (av C J J fun a C=>?_);refine lin J (ac (f:=1) (o2:=1) T46 T37 J J J J C J J fun a C=>?_);refine lin J (af (v:=(.slice O ws.length V)) T37 J C J (F.blkL 1 J) J J fun a C=>?_);refine lin J (aI T37.und C J J fun a C=>?_);have ar:=dI (k:=k) (n:=((ws.length: Nat): Int)) F.inv.nil j0;refine lin J (Co func43 C J (ar) ?_);rintro e w ⟨rfl,G⟩;obtain⟨I,a3,b6⟩:=cI (k:=k) (n:=((ws.length: Nat): Int)) (m:=ws.length) j0 j0;rw [a3];refine⟨_,rfl,fun a C=>?_⟩;have F:=F.call G;refine Ls J C fun a C=>?_;refine wpList_nil (aa (wp_seq (ab (Lm J C fun a C=>?_))));refine lin J (av C J J fun a C=>?_);refine lin J (ac (f:=1) (o2:=1) T46 T37 J J J J C J J fun a C=>?_);refine lin J (af (v:=(.slice O ws.length V)) T37 J C J (F.blkL 1 J) J J fun a C=>?_);refine Lm J C fun a C=>?_;obtain⟨T,Z,az,a6,aw,au,ae,ad⟩:=Row.getG Wd.len j4 X (j:=I) j0;have a8:(O: Option Addr)=some ⟨Z,0,none⟩:=by injection au
  refine lin J (aC (b:=Z) (o:=0) (j:=I) T37.und T35 a8 C J J j0 j0 J fun a C=>?_);refine lin J (al (vs:=(wL T)) T35 J C J (F.blkL 2 (b:=Z) (o:=.cells a6 35 (0,0)) (by rw [<- ae];rfl)) J ad J fun a C=>?_);refine lin J (aE (cs:= #[(iV 0),(iV 0),(.string (⟨#[]⟩)),(.bool false)]) T35 F C J J fun ay a w F C=>?_);refine lin J (ak (cs':=(wA T)) T35 F (i:=0) J C J J J J J J fun a w F C=>?_);refine wpList_nil (aa (wp_seq (ab (Lm J C fun a C=>?_))));refine Lm J C fun a C=>?_;refine lin J (av C J J fun a C=>?_);refine lin J (ac (f:=1) (o2:=1) T46 T37 J J J J C J J fun a C=>?_);refine lin J (af (v:=(.slice O ws.length V)) T37 J C J (F.blkL 2 J) J J fun a C=>?_);have am:=fq F.inv.nil (RdG.of_mem Wd.len j4 F.inv (List.mem_of_getElem? (i:=3) J) X j0);refine lin J (Co func47 C J (am) ?_);rintro e w ⟨a4,a5,b1,rfl,a9,G⟩;refine⟨_,rfl,fun a C=>?_⟩;have F:=F.call_own G;refine Lm J C fun a C=>?_;refine Lm J C fun a C=>?_;refine lin J (aL (i:=((I: Nat): Int)) (j:=1) C J J J j0 fun a C=>?_);have ao:=c_DeleteW (i:=I) F.inv.one a9 j0 J J;refine lin J (Co func46 C J (ao) ?_);rintro e w ⟨b2,rfl,a1,G⟩;rw [show ws.length - 1=(ws.eraseIdx I).length from by rw [List.length_eraseIdx,if_pos j0]] at a1 ⊢;refine⟨_,rfl,fun a C=>?_⟩;have F:=F.call_one G;refine lin J (av C J J fun a C=>?_);refine lin J (ac (f:=1) (o2:=1) T46 T37 J J J J C J J fun a C=>?_);refine lin J (ak (cs':=(hA p a4 ((ws.eraseIdx I).length) a5 Ab bs.length cb)) T37 F (i:=3) J C J J J J J J fun a w F C=>?_);refine wpList_nil (aa (wp_seq (ab (lin J (al (vs:=(wL T)) T35 J C J (F.blkL 1 J) J (ag J) J fun a C=>?_)))));refine lin J (ak (cs':=(wA T)) T35 F (i:=2) J C J J J J J J fun a w F C=>?_);refine wpList_nil (aa (wp_ret (retA (i:=2) (cs:=(wA T)) J T35 J F J C J J ?_)));have F:=F.fd [2,0,2,0,3,0,3,2,3] J;rw [fP a3 aw];exact⟨_,rfl,⟨_,_,_,_,_,_,rfl,a1,a0⟩,F⟩
theorem c_pshared {w0: World} {H: PHeap} {q p: Nat} {ws bs: List Wd} {L: List Ent} (hI: Inv w0 H L) (hD: HD q p ws bs L) (hlw: ws.length<=100000) (hlb: bs.length<=100000) {k: Int}: Calls prog 45 #[(pB q),(iV k)] w0 (fun e w'=> ∃ L',e=.returned (wv (shareP ws k).1)/\HD q p (shareP ws k).2 bs L'/\Step w0 H L w' H L'):=by
 obtain⟨T,Y,Ab,cb,b5,b2,rfl,a1,a0⟩:=hD;have F:=Step.refl hI;have b8:=Row.cap a1;have b7:=Row.cap a0;refine enter [(pB q),(iV k)] func45 J ntmps45 J fun a C=>?_;refine wp_seq (ab (lin J (aE (cs:= #[(iV 0),(iV 0),(.string (⟨#[]⟩)),(.bool false)]) T35 F C J J fun ay a w F C=>?_)));refine wpList_nil (aa (wp_seq (wp_seq (ab (Lm J C fun a C=>?_)))));refine lin J (av C J J fun a C=>?_);refine lin J (ac (f:=1) (o2:=1) T46 T37 J J J J C J J fun a C=>?_);refine lin J (af (v:=(.slice T ws.length Y)) T37 J C J (F.blkL 1 J) J J fun a C=>?_);refine lin J (aI T37.und C J J fun a C=>?_);refine lin J (bn (i:=((ws.length: Nat): Int)) (j:=0) C J J J fun a C=>?_);refine wpList_nil (aa (an (t:=11) C J (fun ad C=>?_) (fun ad C=>?_)))
 ·refine ap C J (wp_seq (ab (lin J (aG (vs:= [(0,(iV 2)),(2,(.string (⟨#[97]⟩)))]) (cells:= [(iV 2),(iV 0),(.string (⟨#[97]⟩)),(.bool false)]) T35 PL35 C (C.evp J) J J fun a C=>?_))));refine lin J (ak (cs':= #[(iV 2),(iV 0),(.string (⟨#[97]⟩)),(.bool false)]) T35 F (i:=0) J C J J J J J J fun a w F C=>?_);refine wpList_nil (aa (wp_ret (ai (retA (i:=0) (cs:= #[(iV 2),(iV 0),(.string (⟨#[97]⟩)),(.bool false)]) J T35 J F J C J J ?_))));have F:=F.drop;obtain rfl: ws= []:=List.eq_nil_of_length_eq_zero j0;rw [shareP_nil];exact⟨_,by rfl,⟨_,_,_,_,_,_,rfl,a1,a0⟩,F⟩
 ·refine ah C J (wp_skip (aa (wp_seq (ab (Lm J C fun a C=>?_)))));refine Lm J C fun a C=>?_;refine lin J (av C J J fun a C=>?_);refine lin J (ac (f:=1) (o2:=1) T46 T37 J J J J C J J fun a C=>?_);refine lin J (af (v:=(.slice T ws.length Y)) T37 J C J (F.blkL 1 J) J J fun a C=>?_);refine lin J (aI T37.und C J J fun a C=>?_);have ao:=dI (k:=k) (n:=((ws.length: Nat): Int)) F.inv.nil j0;refine lin J (Co func43 C J (ao) ?_);rintro e w ⟨rfl,a2⟩;obtain⟨G,a7,bc⟩:=cI (k:=k) (n:=((ws.length: Nat): Int)) (m:=ws.length) j0 j0;rw [a7];refine⟨_,rfl,fun a C=>?_⟩;have F:=F.call a2;refine Ls J C fun a C=>?_;refine wpList_nil (aa (wp_seq (ab (Lm J C fun a C=>?_))));refine Lm J C fun a C=>?_;refine lin J (av C J J fun a C=>?_);refine lin J (ac (f:=1) (o2:=1) T46 T37 J J J J C J J fun a C=>?_);refine lin J (af (v:=(.slice T ws.length Y)) T37 J C J (F.blkL 1 J) J J fun a C=>?_);have aq:=fq F.inv.nil (RdG.of_mem Wd.len j4 F.inv (List.mem_of_getElem? (i:=2) J) a1 j0);refine lin J (Co func47 C J (aq) ?_);rintro e w ⟨I,X,b4,rfl,a5,a2⟩;refine⟨_,rfl,fun a C=>?_⟩;have F:=F.call_own a2;refine lin J (av C J J fun a C=>?_);refine lin J (ac (f:=1) (o2:=1) T46 T37 J J J J C J J fun a C=>?_);refine lin J (ak (cs':=(hA p I ws.length X Ab bs.length cb)) T37 F (i:=2) J C J J J J J J fun a w F C=>?_);refine wpList_nil (aa (wp_seq (ab (Lm J C fun a C=>?_))));refine lin J (av C J J fun a C=>?_);refine lin J (ac (f:=1) (o2:=1) T46 T37 J J J J C J J fun a C=>?_);refine lin J (af (v:=(.slice I ws.length X)) T37 J C J (F.blkL 2 J) J J fun a C=>?_);refine Lm J C fun a C=>?_;obtain⟨ax,a3,b0,b1,a8,au,ba,b6⟩:=Row.getG Wd.len j4 a5 (j:=G) j0;have a4:(I: Option Addr)=some ⟨a3,0,none⟩:=by injection au
  refine lin J (aC (b:=a3) (o:=0) (j:=G) T37.und T35 a4 C J J j0 j0 J fun a C=>?_);refine lin J (ac (f:=3) (o2:=(0+G * 4+3)) T35 T4 J J J J C J J fun a C=>?_);refine lin J (o_putF (j:=G) (d:=3) T4 F (i:=0) J a5 J a4 j0 j4 J C J J J J fun b3 a w Z b9 F C=>?_);rw [show (Value.cells _).toList= [.bool false] from rfl,splice_one a8] at Z;refine wpList_nil (aa (wp_seq (ab (Lm J C fun a C=>?_))));refine lin J (av C J J fun a C=>?_);refine lin J (ac (f:=1) (o2:=1) T46 T37 J J J J C J J fun a C=>?_);refine lin J (af (v:=(.slice I ws.length X)) T37 J C J (F.blkL 2 J) J J fun a C=>?_);refine Lm J C fun a C=>?_;obtain⟨O,V,az,a9,aw,ar,aj,ag⟩:=Row.getG Wd.len j4 Z (j:=G) j0;have ae:(I: Option Addr)=some ⟨V,0,none⟩:=by injection ar
  refine lin J (aC (b:=V) (o:=0) (j:=G) T37.und T35 ae C J J j0 j0 J fun a C=>?_);refine lin J (al (vs:=(wL O)) T35 J C J (F.blkL 0 (b:=V) (o:=.cells a9 35 (0,0)) (by rw [<- aj];rfl)) J ag J fun a C=>?_);refine lin J (ak (cs':=(wA O)) T35 F (i:=1) J C J J J J J J fun a w F C=>?_);refine wpList_nil (aa (wp_ret (retA (i:=1) (cs:=(wA O)) J T35 J F J C J J ?_)));have F:=F.fd [2,0,3,0,3,2,3] J;have am: O=shW ax:=by
   have a6:=aw;rw [List.getElem?_set,if_pos J,if_pos j0] at a6;exact(Option.some.inj a6).symm
  subst am;rw [shareP_at a7 a8];exact⟨_,rfl,⟨_,_,_,_,_,_,(by rw [List.length_set];rfl),(by rw [List.length_set];exact Z),a0⟩,F⟩
theorem c_phold {w0: World} {H: PHeap} {q p: Nat} {ws bs: List Wd} {L: List Ent} (hI: Inv w0 H L) (hD: HD q p ws bs L) (hlw: ws.length<=100000) (hlb: bs.length<=100000) {x: Wd} {e0: Int}: Calls prog 44 #[(pB q),(.agg (wA x)),(iV e0)] w0 (fun e w'=> ∃ H' L',e=.returned (.tuple #[])/\HD q p (holdP ws x e0) bs L'/\Step w0 H L w' H' L'):=by
 obtain⟨a2,a3,Ab,cb,Z,a4,rfl,ao,am⟩:=hD;have F:=Step.refl hI;have bo:=Row.cap ao;have bm:=Row.cap am;refine enter [(pB q),(.agg (wA x)),(iV e0)] func44 J ntmps44 J fun a C=>?_;refine wp_seq (ab (lin J (aV (cs:=(wA x)) F C J J J fun a6 a w F C=>?_)));refine wpList_nil (aa (wp_seq (ab (Lm J C fun a C=>?_))));refine lin J (bn (i:=e0) (j:=0) C J J J fun a C=>?_);let ae:=(eO q 46 (hA p a2 ws.length a3 Ab bs.length cb));refine wpList_nil (aa (an (t:=7) C J (fun ai C=>?_) (fun ai C=>?_)))
 ·refine ap C J ?_;have F:=F.front 2 J;have bk:=F;refine As.c_draw_head (ini:=(As.il [(7, [Z])])) (sup:=(As.sl [])) (als:= [7]) (s0:=⟨H,fun _=>none⟩) (L:= [(eO a6 35 (wA x)),ae,a4]) (N:=18) (E:= [(0,(pB q)),(4,(pB a6))]) 8 [FcV (pB q),FcV (pB q),FcV (pB q),FcV (.pointer (some ⟨q,1,none⟩)),FcV (.slice a2 ws.length a3),FcV (.agg (wA x)),fun bg v=>(fun H v=> ∃ b,v=.slice (some ⟨b,0,none⟩) 1 1/\H b=some (.cells (wA x) 35 (0,0))) bg.H v,fun s v=> ∃(A: Option Addr) (c: Nat) (a9: Ent),s.ax 7=some [a9]/\v=.slice A ((ws++([x]: List Wd)).length) c/\Row (.slice A ((ws++([x]: List Wd)).length) c) a9 35 4 ((ws++([x]: List Wd)).length) (gfl Wd.cells (ws++([x]: List Wd)))] mixed J J J (As.M1 (As.M1 (As.M1 (As.M1 (As.M1 (As.M1 (As.Monos.cons (fun _ _ v hl bc=>(fun _ _ _ hl ⟨b,h,b8⟩=>⟨b,h,hl _ _ b8⟩: ∀(H H': PHeap) (v: Value),Le H H'->(fun H v=> ∃ b,v=.slice (some ⟨b,0,none⟩) 1 1/\H b=some (.cells (wA x) 35 (0,0))) H v->(fun H v=> ∃ b,v=.slice (some ⟨b,0,none⟩) 1 1/\H b=some (.cells (wA x) 35 (0,0))) H' v) _ _ _ hl.le bc) (As.Monos.cons (fun _ _ _ hl ⟨A,c,a9,h,e⟩=>⟨A,c,a9,hl.get h,e⟩) (As.Monos.nil))))))))) (fun _=>rfl) F (C.pk J) (As.QuietsI.c4 ?_ ?_ ?_ ?_ (As.QuietsI.c4 ?_ ?_ ?_ ?_ (As.QuietsI.nil))) (fun bj a w bh X F C ar=>?_)
  ·refine As.Qx J fun a w O G a1 V F C Y X=>?_;have I:=F;exact aj C J J fun a C=>As.ql C I
  ·refine As.Qx J fun a w O G a1 V F C Y X=>?_;have I:=F;exact aj C J J fun a C=>As.ql C I
  ·refine As.Qx1 1 J fun a w O G a1 V F C Y X=>?_;have I:=F;exact av C J J fun a C=>As.ql C I
  ·refine As.Qx1 2 J fun a w O G a1 V F C Y X=>?_;have I:=F;exact ac (f:=1) (o2:=1) T46 T37 J J J J C J J fun a C=>As.ql C I
  ·refine As.Qx1 3 J fun a w O G a1 V F C Y X=>?_;have I:=F;have F:=Step.dropN _ _ F;exact af (v:=(.slice a2 ws.length a3)) T37 J C J (F.blkL 1 J) J J fun a C=>As.ql C I
  ·refine As.Qx J fun a w O G a1 V F C Y X=>?_;have I:=F;have F:=Step.dropN _ _ F;exact al (vs:=(wL x)) T35 J C J (F.blkL 0 J) J (ag J) J fun a C=>As.ql C I
  ·refine As.Qx1 5 J fun a w O G a1 V F C Y X=>?_;have I:=F;have bl:=Step.dropN _ _ F;refine id (aY (vs:= [(0,(.agg (wA x)))]) (cells:=(wL x)) T37.und T35 F C (C.evp J) J J J J fun b2 a w F C=>?_);obtain⟨bi,F,ba,aq⟩:=F.give;exact As.qdone (s:=⟨O,G⟩) ba C F ⟨_,rfl,aq⟩
  ·refine As.Qx1 4 J fun a w O G a1 V F C Y X=>?_;obtain⟨_,C,b2,rfl,aq⟩:=Y.g C 6 J;have F: Step w0 H [(eO q 46 #[.pointer (some ⟨p,0,none⟩),.slice a2 ws.length a3,.slice Ab bs.length cb,.bool true]),Z,a4] w O (Z::(As.aents (As.il [(7, [Z])]) (As.sl []) [] G++As.aents (As.il [(7, [Z])]) (As.sl []) [] G++ [(eO a6 35 (wA x)),ae,a4])):=As.opn (s:=⟨O,G⟩) [] [7] [] [Z] J (As.con0s V J) F;obtain⟨b3,bf,b5,b4,b6,az,b7⟩:=(RowG.of_lit Wd.len ([x]: List Wd) aq j3 J).2.2;refine id (aJ (news:=(gfl Wd.cells ([x]: List Wd))) (xs:=(gfl Wd.cells ws)) T37.und T35 J J F ao C J J (aw Wd.len _) (fun b0=>⟨b3,bf,b5,b4,b6,(az (fun T=>b0 (by rw [T];rfl))).1,F.blkH (az (fun T=>b0 (by rw [T];rfl))).2,fun j u b9=>a8 Wd.len j4 b7 b9⟩) (aT Wd.one' _) j0 J J fun bq ad a w a0 F C=>?_);rw [<- aF] at a0;obtain⟨a5,a7,rfl⟩:=a0.slice;have b1:(ws.length+1)=(ws++([x]: List Wd)).length:=by have T:=a0.1;rw [aw Wd.len] at T;omega
   rw [show Value.slice a5 (ws.length+1) a7=Value.slice a5 (ws++([x]: List Wd)).length a7 from by rw [b1]] at C;rw [b1] at a0;exact As.qown (i:=7) (dst:=some 15) (s:=⟨O,G⟩) (E:= [ad]) [] [7] [] J J V (Le.refl _) C.dfr (As.has_at C) F As.con1 ⟨_,_,_,rfl,rfl,a0⟩
  obtain⟨ay,G⟩:=bh;have bp: Le H ay:=X.le;dsimp only at ar F;obtain⟨_,C,rfl⟩:=As.Dd C ar 0 J;obtain⟨_,C,a5,a7,ad,au,rfl,a0⟩:=As.Dd C ar 7 J;have au: G 7=some [ad]:=au;have F: Step w0 H [(eO q 46 #[.pointer (some ⟨p,0,none⟩),.slice a2 ws.length a3,.slice Ab bs.length cb,.bool true]),Z,a4] w ay [ad,(eO a6 35 (wA x)),ae,a4]:=by
   have T:=F;unfold As.aents at T;simp only [List.flatMap_cons,List.flatMap_nil,As.conE,show (As.sl []) 7=none from rfl,au,Option.isSome_some,Option.getD_some,cond_true,cond_false,List.cons_append,List.nil_append,List.append_nil] at T;exact T
  refine any1 (i:=8) j1 J J (av C J J fun a C=>?_);refine any1 (i:=9) j1 J J (ac (f:=1) (o2:=1) T46 T37 J J J J C J J fun a C=>?_);refine any1 (i:=10) j1 J J (ak (cs':=(hA p a5 ((ws++([x]: List Wd)).length) a7 Ab bs.length cb)) T37 F (i:=2) J C J J J J J J fun a w F C=>?_);refine any0 j1 ?_;refine ret0 J C ?_;have F:=F.fd [2,0,3,2,3] J;rw [show holdP ws x e0=ws++ [x] from if_pos ai];exact⟨_,_,rfl,⟨_,_,_,_,_,_,by first | rfl | simp,a0,am⟩,F⟩
 ·refine ah C J (wp_skip (ret0 J C ?_));have F:=F.drop;rw [holdP_no _ _ ai];exact⟨_,_,rfl,⟨_,_,_,_,_,_,rfl,ao,am⟩,F⟩
end Go.Vk.Tryz
namespace Go.Vk.Tryz
open Go.RowKit
theorem c_Parts {w0: World} {H: PHeap} {L: List Ent} {p: Nat} {h: HS} (hI: Inv w0 H L) (hK: HK p h L) (hO: h.Ok) {x: Wd}: Calls prog 49 #[(pB p),(.agg (wA x))] w0 (fun e w'=> ∃ H' L' A c en,e=.returned (.tuple #[.string (partsS h.S x).1,.slice A (partsS h.S x).2.1.length c,.int .i64 (partsS h.S x).2.2])/\Row (.slice A (partsS h.S x).2.1.length c) en 35 4 (partsS h.S x).2.1.length (gfl Wd.cells (partsS h.S x).2.1)/\HK p h L'/\Step w0 H L w' H' (en::L')):=by
 obtain⟨bs,Y,am⟩:=hK;have C:=Step.refl hI;have hl:=HK.len hO Y;have hu:=hO.u;have hu: -100000000000<=h.u/\h.u<=100000000000:=by omega
 refine enter [(pB p),(.agg (wA x))] func49 J ntmps49 J fun a q=>?_;refine wp_seq (ab (lin J (aV (cs:=(wA x)) C q J J J fun b4 a w C q=>?_)));refine Ls J q fun a q=>?_;refine Ls J q fun a q=>?_;refine Ls J q fun a q=>?_;refine wpList_nil (aa (wp_seq (wp_seq (ab (Lm J q fun a q=>?_)))));refine lin J (aW T44.und T103 q J J J fun a q=>?_);refine wpList_nil (aa (ah q J (wp_skip (aa (wp_seq (wp_seq (ab (Lm J q fun a q=>?_))))))));refine lin J (al (vs:=(wL x)) T35 J q J (C.blkL 0 J) J (ag J) J fun a q=>?_);have ci:=fT (x:=x) (C.tail [(eO b4 35 (wA x))]) am;refine lin J (Co func67 q J (ci) ?_);rintro e w ⟨rfl,an⟩;obtain⟨cr,a2⟩: ∃ o_,atB bs x=o_:=⟨_,rfl⟩;rw [a2];refine⟨_,rfl,fun a q=>?_⟩;have C:=C.frameR [(eO b4 35 (wA x))] an;refine wpList_nil (aa (wp_block (wp_seq (ab ?_))))
 let T:=(eO b4 35 (wA x));rcases cr with _ |⟨Z,⟨cq,cj⟩ |⟨az,I⟩ |⟨I⟩⟩
 ·refine lin J (bu T110 q J J fun a q=>?_);refine lin J (ad (v:=(.bool false)) q J J J fun a q=>?_);refine lin J (ad (v:=(.pointer none)) q J J J fun a q=>?_);refine wpList_nil (aa (ah q J (wp_seq (ab (lin J (bu T117 q J J fun a q=>?_))))));refine lin J (ad (v:=(.bool false)) q J J J fun a q=>?_);refine lin J (ad (v:=(.pointer none)) q J J J fun a q=>?_);refine wpList_nil (aa (ah q J (wp_skip (ao (aa (wp_seq (ab (Ls J q fun a q=>?_))))))));refine Ls J q fun a q=>?_;refine Ls J q fun a q=>?_;refine wpList_nil (aa (wp_ret (ret3 J q J J J ?_)));have a5: atS h.S x=none:=by rw [<- Y];exact aK a2
  have C:=C.drop;have a6: partsS h.S x=(⟨#[]⟩, [],211):=by
   unfold partsS;rw [a5]
  rw [a6];exact⟨_,_,none,0,noEnt,rfl,Row.nil _ _,⟨bs,Y,am⟩,C.cons_none J⟩
 ·have ae:=(ar a2).2.2.2.1;refine lin J (aP T110 q J J J fun a q=>?_);refine lin J (ad (v:=(.bool false)) q J J J fun a q=>?_);refine lin J (ad (v:=(.pointer none)) q J J J fun a q=>?_);refine wpList_nil (aa (ah q J (wp_seq (ab (lin J (aP T117 q J J J fun a q=>?_))))));refine lin J (ad (v:=(.bool false)) q J J J fun a q=>?_);refine lin J (ad (v:=(.pointer none)) q J J J fun a q=>?_);refine wpList_nil (aa (ah q J (wp_skip (ao (aa (wp_seq (ab (Ls J q fun a q=>?_))))))));refine Ls J q fun a q=>?_;refine Ls J q fun a q=>?_;refine wpList_nil (aa (wp_ret (ret3 J q J J J ?_)));have a5: atS h.S x=some (PB.var cq cj):=by rw [<- Y];exact aK a2
  have C:=C.drop;have a6: partsS h.S x=(⟨#[]⟩, [],211):=by
   unfold partsS;rw [a5]
  rw [a6];exact⟨_,_,none,0,noEnt,rfl,Row.nil _ _,⟨bs,Y,am⟩,C.cons_none J⟩
 ·have ae:=(ar a2).2.2.2.1;refine lin J (bq T110.und q J J fun a q=>?_);refine lin J (ad (v:=(.bool true)) q J J J fun a q=>?_);refine lin J (ad (v:=(pB Z)) q J J J fun a q=>?_);refine wpList_nil (aa (ap q J (wp_seq (ab (Ls J q fun a q=>?_)))));refine wpList_nil (aa (wp_seq ?_));obtain⟨b1,b6,b3,b8,a3,a4,ay,c6,bj,bl,ce,cg,c8,bh⟩:=(am).open_;have C:=Step.castR [T] c6 C;obtain⟨cp,a8,bc⟩:=bh.get ae;obtain⟨aq,au,bx,bn,cn⟩:=bc;have a9:=bg a8;have bv:=bp a8;have cm:=bt a8;rw [bx] at a9;have bw:=bh.ok _ _ ae;have cl: I.length<=64:=bw;have cx:=C;let ak:=(eO p 103 #[(.slice b1 bs.length b6),(.slice b3 bs.length b8),(iV h.u)]);refine As.c_draw_head (ini:=(As.il [])) (sup:=(As.sl [])) (als:= [8]) (s0:=⟨H,fun _=>none⟩) (L:=(T::ak::a3::a4::(fl3 ay))) (N:=34) (E:= [(7,(pB Z))]) 9 [FcV (pB Z),FcV (pB Z),FcV (pB Z),FcV (.string az),FcV (pB Z),FcV (pB Z),FcV (.pointer (some ⟨Z,1,none⟩)),FcV (.slice aq I.length au),fun s v=> ∃(A: Option Addr) (c: Nat) (en: Ent),s.ax 8=some [en]/\v=.slice A I.length c/\Row (.slice A I.length c) en 35 4 I.length (gfl Wd.cells I)] mixed J J J (As.M1 (As.M1 (As.M1 (As.M1 (As.M1 (As.M1 (As.M1 (As.M1 (As.Monos.cons (fun _ _ _ hl ⟨A,c,en,h,e⟩=>⟨A,c,en,hl.get h,e⟩) (As.Monos.nil)))))))))) (fun _=>rfl) C (q.pk J) (As.QuietsI.c4 ?_ ?_ ?_ ?_ (As.QuietsI.c4 ?_ ?_ ?_ ?_ (As.QuietsI.cons ?_ (As.QuietsI.nil)))) (fun cw a w co X C q br=>?_)
  ·refine As.Qx J fun a w O G a1 V C q a0 X=>?_;have F:=C;exact aj q J J fun a q=>As.ql q F
  ·refine As.Qx1 0 J fun a w O G a1 V C q a0 X=>?_;have F:=C;exact av q J J fun a q=>As.ql q F
  ·refine As.Qx1 1 J fun a w O G a1 V C q a0 X=>?_;have F:=C;exact ac (f:=0) (o2:=0) T113 T9 J J J J q J J fun a q=>As.ql q F
  ·refine As.Qx1 2 J fun a w O G a1 V C q a0 X=>?_;have F:=C;have C:=Step.dropN _ _ C;exact af (v:=(.string az)) T9 J q J (C.at_mem [T,ak,a3,a4] a9) J J fun a q=>As.ql q F
  ·refine As.Qx J fun a w O G a1 V C q a0 X=>?_;have F:=C;exact aj q J J fun a q=>As.ql q F
  ·refine As.Qx1 4 J fun a w O G a1 V C q a0 X=>?_;have F:=C;exact av q J J fun a q=>As.ql q F
  ·refine As.Qx1 5 J fun a w O G a1 V C q a0 X=>?_;have F:=C;exact ac (f:=1) (o2:=1) T113 T37 J J J J q J J fun a q=>As.ql q F
  ·refine As.Qx1 6 J fun a w O G a1 V C q a0 X=>?_;have F:=C;have C:=Step.dropN _ _ C;exact af (v:=(.slice aq I.length au)) T37 J q J (C.at_mem [T,ak,a3,a4] a9) J J fun a q=>As.ql q F
  ·refine As.Qx1 7 J fun a w O G a1 V C q a0 X=>?_;have C: Step w0 H L w O ((As.aents (As.il []) (As.sl []) [] G++As.aents (As.il []) (As.sl []) [] G++(T::ak::a3::a4::(fl3 ay)))):=As.opn (s:=⟨O,G⟩) [] [8] [] [] J (As.con0 V J) C;have ck:=bH C.inv.nil (RdG.of_mem Wd.len j4 C.inv (a7 [T,ak,a3,a4] bv) bn j0);refine id (Co func63 q J (ck) ?_);rintro e w ⟨c1,c2,aw,rfl,bm,an⟩;refine⟨_,rfl,fun a q=>?_⟩;have C:=C.call_own an;exact As.qown (i:=8) (dst:=some 25) (s:=⟨O,G⟩) (E:= [aw]) [] [8] [] J J V (Le.refl _) q.dfr (As.has_at q) C As.con1 ⟨_,_,_,rfl,rfl,bm⟩
  obtain⟨c0,G⟩:=co;have cy: Le H c0:=X.le;dsimp only at br C;obtain⟨_,q,rfl⟩:=As.Dd q br 3 J;obtain⟨_,q,c1,c2,aw,bz,rfl,bm⟩:=As.Dd q br 8 J;have bz: G 8=some [aw]:=bz;have C: Step w0 H L w c0 (aw::T::(eO p 103 #[(.slice b1 bs.length b6),(.slice b3 bs.length b8),(iV h.u)])::a3::a4::(fl3 ay)):=by
   have bo:=C;unfold As.aents at bo;simp only [List.flatMap_cons,List.flatMap_nil,As.conE,show (As.sl []) 8=none from rfl,bz,Option.isSome_some,Option.getD_some,cond_true,cond_false,List.cons_append,List.nil_append,List.append_nil] at bo;exact bo
  refine any1 (i:=9) j1 J J (aH q J J fun a q=>?_);refine any1 (i:=10) j1 J J (aH q J J fun a q=>?_);refine any1 (i:=11) j1 J J (aH q J J fun a q=>?_);refine any0 j1 ?_;refine aa (wp_ret (aA (ai (ret3 J q J J J ?_))));have a5: atS h.S x=some (PB.fn az I):=by rw [<- Y];exact aK a2
  have c9: HP p bs h.tk h.u ((eO p 103 #[(.slice b1 bs.length b6),(.slice b3 bs.length b8),(iV h.u)])::a3::a4::(fl3 ay)):=HP.mk' (by first | exact bj | exact List.length_set.trans bj |(simp only [List.length_set];done) |(simp only [List.length_set];exact bj)) (by first | exact bl | exact List.length_set.trans bl |(simp only [List.length_set];done) |(simp only [List.length_set];exact bl)) ce cg c8 bh;have C:=C.fd [2,0] J;have a6: partsS h.S x=(az,I,0):=by
   unfold partsS;rw [a5]
  rw [a6];exact⟨_,_,_,_,_,rfl,bm,⟨bs,Y,c9⟩,C⟩
 ·have ae:=(ar a2).2.2.2.1;refine lin J (aP T110 q J J J fun a q=>?_);refine lin J (ad (v:=(.bool false)) q J J J fun a q=>?_);refine lin J (ad (v:=(.pointer none)) q J J J fun a q=>?_);refine wpList_nil (aa (ah q J (wp_seq (ab (lin J (bq T117.und q J J fun a q=>?_))))));refine lin J (ad (v:=(.bool true)) q J J J fun a q=>?_);refine lin J (ad (v:=(pB Z)) q J J J fun a q=>?_);refine wpList_nil (aa (ap q J (wp_seq (ab (Ls J q fun a q=>?_)))));refine wpList_nil (aa (wp_seq ?_));obtain⟨b0,b5,b2,b7,b9,ba,c3,c5,bi,bk,cd,cf,c7,bf⟩:=(am).open_;have C:=Step.castR [T] c5 C;obtain⟨cp,a8,bc⟩:=bf.get ae;obtain⟨aq,au,bx,bn,cn⟩:=bc;have a9:=bg a8;have bv:=bp a8;have cm:=bt a8;rw [bx] at a9;have bw:=bf.ok _ _ ae;have cl: I.length<=64:=bw;refine ab (Lm J q fun a q=>?_);refine lin J (av q J J fun a q=>?_);refine lin J (ac (f:=0) (o2:=0) T119 T37 J J J J q J J fun a q=>?_);refine lin J (af (v:=(.slice aq I.length au)) T37 J q J (C.at_mem [T,(eO p 103 #[(.slice b0 bs.length b5),(.slice b2 bs.length b7),(iV h.u)]),b9,ba] a9) J J fun a q=>?_);have ch:=bH C.inv.nil (RdG.of_mem Wd.len j4 C.inv (a7 [T,(eO p 103 #[(.slice b0 bs.length b5),(.slice b2 bs.length b7),(iV h.u)]),b9,ba] bv) bn j0);refine lin J (Co func63 q J (ch) ?_);rintro e w ⟨ct,cu,cv,rfl,cc,an⟩;refine⟨_,rfl,fun a q=>?_⟩;have C:=C.call_own an;refine Ls J q fun a q=>?_;refine Ls J q fun a q=>?_;refine Ls J q fun a q=>?_;refine wpList_nil (aa (wp_ret (aA (ai (ret3 J q J J J ?_)))));have a5: atS h.S x=some (PB.vec I):=by rw [<- Y];exact aK a2
  have ca: HP p bs h.tk h.u ((eO p 103 #[(.slice b0 bs.length b5),(.slice b2 bs.length b7),(iV h.u)])::b9::ba::(fl3 c3)):=HP.mk' (by first | exact bi | exact List.length_set.trans bi |(simp only [List.length_set];done) |(simp only [List.length_set];exact bi)) (by first | exact bk | exact List.length_set.trans bk |(simp only [List.length_set];done) |(simp only [List.length_set];exact bk)) cd cf c7 bf;have C:=C.fd [2,0] J;have a6: partsS h.S x=(⟨#[]⟩,I,0):=by
   unfold partsS;rw [a5]
  rw [a6];exact⟨_,_,_,_,_,rfl,cc,⟨bs,Y,ca⟩,C⟩
theorem c_Reuse {w0: World} {H: PHeap} {L: List Ent} {p: Nat} {h: HS} (hI: Inv w0 H L) (hK: HK p h L) (hO: h.Ok) {x: Wd} {s: ByteArray} {A: Option Addr} {c: Nat} {xs: List Wd} (hr: RdG 4 Wd.cells w0 L A c xs): Calls prog 50 #[(pB p),(.agg (wA x)),(.string s),(.slice A xs.length c)] w0 (fun e w'=> ∃ L',e=.returned (.tuple #[wv (h.reuse x s xs).2.1,.int .i64 (h.reuse x s xs).2.2])/\HK p (h.reuse x s xs).1 L'/\Step w0 H L w' H L'):=by
 obtain⟨bs,G,a1⟩:=hK;have F:=Step.refl hI;have hl:=HK.len hO G;have hu:=hO.u;have hu: -100000000000<=h.u/\h.u<=100000000000:=by omega
 refine enter [(pB p),(.agg (wA x)),(.string s),(.slice A xs.length c)] func50 J ntmps50 J fun a C=>?_;refine wp_seq (ab (lin J (aV (cs:=(wA x)) F C J J J fun b4 a w F C=>?_)));refine lin J (aE (cs:= #[(iV 0),(iV 0),(.string (⟨#[]⟩)),(.bool false)]) T35 F C J J fun a0 a w F C=>?_);refine Ls J C fun a C=>?_;refine wpList_nil (aa (wp_seq (wp_seq (ab (Lm J C fun a C=>?_)))));refine lin J (aW T44.und T103 C J J J fun a C=>?_);refine wpList_nil (aa (ah C J (wp_skip (aa (wp_seq (ab (Lm J C fun a C=>?_)))))));refine lin J (al (vs:=(wL x)) T35 J C J (F.blkL 1 J) J (ag J) J fun a C=>?_);have c1:=fT (x:=x) (F.tail [(eO a0 35 #[(iV 0),(iV 0),(.string (⟨#[]⟩)),(.bool false)]),(eO b4 35 (wA x))]) a1;refine lin J (Co func67 C J (c1) ?_);rintro e w ⟨rfl,aj⟩;obtain⟨c6,V⟩: ∃ o_,atB bs x=o_:=⟨_,rfl⟩;rw [V];refine⟨_,rfl,fun a C=>?_⟩;have F:=F.frameR [(eO a0 35 #[(iV 0),(iV 0),(.string (⟨#[]⟩)),(.bool false)]),(eO b4 35 (wA x))] aj
 rcases c6 with _ |⟨a2,⟨c5,c2⟩ |⟨aq,X⟩ |⟨X⟩⟩
 ·refine lin J (bu T110 C J J fun a C=>?_);refine Lm J C fun a C=>?_;refine lin J (ad (v:=(.pointer none)) C J J J fun a C=>?_);refine lin J (ad (v:=(.bool false)) C J J J fun a C=>?_);refine Ls J C fun a C=>?_;refine Ls J C fun a C=>?_;refine wpList_nil (aa (wp_seq (wp_block (wp_seq (ab (Lm J C fun a C=>?_))))));refine lin J (aS C J J fun a C=>?_);refine Ls J C fun a C=>?_;refine wpList_nil (aa (ap C J (wp_seq (ab (lin J (aG (vs:= []) (cells:= [(iV 0),(iV 0),(.string (⟨#[]⟩)),(.bool false)]) T35 PL35 C (C.evp J) J J fun a C=>?_))))));refine lin J (ak (cs':= #[(iV 0),(iV 0),(.string (⟨#[]⟩)),(.bool false)]) T35 F (i:=0) J C J J J J J J fun a w F C=>?_);refine Ls J C fun a C=>?_;refine wpList_nil (aa (wp_ret (aA (ai (retA1 (i:=0) (cs:= #[(iV 0),(iV 0),(.string (⟨#[]⟩)),(.bool false)]) J T35 J F J C J J J ?_)))));have I: atS h.S x=none:=by rw [<- G];exact aK V
  have F:=F.fd [0,0] J;have O: h.reuse x s xs=(h,(Wd.zero,211)):=by
   unfold HS.reuse;rw [I]
  rw [O];exact⟨_,rfl,⟨bs,G,a1⟩,F.plain⟩
 ·have an:=(ar V).2.2.2.1;refine lin J (aP T110 C J J J fun a C=>?_);refine Lm J C fun a C=>?_;refine lin J (ad (v:=(.pointer none)) C J J J fun a C=>?_);refine lin J (ad (v:=(.bool false)) C J J J fun a C=>?_);refine Ls J C fun a C=>?_;refine Ls J C fun a C=>?_;refine wpList_nil (aa (wp_seq (wp_block (wp_seq (ab (Lm J C fun a C=>?_))))));refine lin J (aS C J J fun a C=>?_);refine Ls J C fun a C=>?_;refine wpList_nil (aa (ap C J (wp_seq (ab (lin J (aG (vs:= []) (cells:= [(iV 0),(iV 0),(.string (⟨#[]⟩)),(.bool false)]) T35 PL35 C (C.evp J) J J fun a C=>?_))))));refine lin J (ak (cs':= #[(iV 0),(iV 0),(.string (⟨#[]⟩)),(.bool false)]) T35 F (i:=0) J C J J J J J J fun a w F C=>?_);refine Ls J C fun a C=>?_;refine wpList_nil (aa (wp_ret (aA (ai (retA1 (i:=0) (cs:= #[(iV 0),(iV 0),(.string (⟨#[]⟩)),(.bool false)]) J T35 J F J C J J J ?_)))));have I: atS h.S x=some (PB.var c5 c2):=by rw [<- G];exact aK V
  have F:=F.fd [0,0] J;have O: h.reuse x s xs=(h,(Wd.zero,211)):=by
   unfold HS.reuse;rw [I]
  rw [O];exact⟨_,rfl,⟨bs,G,a1⟩,F.plain⟩
 ·have an:=(ar V).2.2.2.1;refine lin J (bq T110.und C J J fun a C=>?_);refine Lm J C fun a C=>?_;refine lin J (ad (v:=(pB a2)) C J J J fun a C=>?_);refine lin J (ad (v:=(.bool true)) C J J J fun a C=>?_);refine Ls J C fun a C=>?_;refine Ls J C fun a C=>?_;refine wpList_nil (aa (wp_seq (wp_block (wp_seq (ab (Lm J C fun a C=>?_))))));refine lin J (aS C J J fun a C=>?_);refine Ls J C fun a C=>?_;refine wpList_nil (aa (ah C J (wp_seq (ab (lin J (ac (f:=3) (o2:=3) T35 T4 J J J J C J J fun a C=>?_))))));refine lin J (af (v:=(.bool x.one)) T4 J C J (F.blkL 1 J) J J fun a C=>?_);refine lin J (aS C J J fun a C=>?_);refine Ls J C fun a C=>?_;refine wpList_nil (aa (au (t:=26) C J (fun a5 C=>?_) (fun a5 C=>?_)))
  ·refine ap C J (wp_seq (ab (lin J (aG (vs:= []) (cells:= [(iV 0),(iV 0),(.string (⟨#[]⟩)),(.bool false)]) T35 PL35 C (C.evp J) J J fun a C=>?_))));refine lin J (ak (cs':= #[(iV 0),(iV 0),(.string (⟨#[]⟩)),(.bool false)]) T35 F (i:=0) J C J J J J J J fun a w F C=>?_);refine Ls J C fun a C=>?_;refine wpList_nil (aa (wp_ret (aA (ai (retA1 (i:=0) (cs:= #[(iV 0),(iV 0),(.string (⟨#[]⟩)),(.bool false)]) J T35 J F J C J J J ?_)))));have I: atS h.S x=some (PB.fn aq X):=by rw [<- G];exact aK V
   have T:=a5;simp only [Bool.not_eq_true',Bool.not_eq_false'] at T;have F:=F.fd [0,0] J;have O: h.reuse x s xs=(h,(Wd.zero,212)):=by
    unfold HS.reuse;rw [I];dsimp only;rw [if_pos T]
   rw [O];exact⟨_,rfl,⟨bs,G,a1⟩,F.plain⟩
  ·refine ah C J (wp_seq (ab (Lm J C fun a C=>?_)));refine lin J (Cs func59 C J (fZ (s:=s) F.inv.nil) F fun a w C F=>?_);refine lin J (aS C J J fun a C=>?_);refine Ls J C fun a C=>?_;let a3:=(eO b4 35 (wA x));refine wpList_nil (aa (au (t:=31) C J (fun ae C=>?_) (fun ae C=>?_)))
   ·refine ap C J (wp_seq (ab (lin J (aG (vs:= []) (cells:= [(iV 0),(iV 0),(.string (⟨#[]⟩)),(.bool false)]) T35 PL35 C (C.evp J) J J fun a C=>?_))));refine lin J (ak (cs':= #[(iV 0),(iV 0),(.string (⟨#[]⟩)),(.bool false)]) T35 F (i:=0) J C J J J J J J fun a w F C=>?_);refine Ls J C fun a C=>?_;refine wpList_nil (aa (wp_ret (aA (ai (retA1 (i:=0) (cs:= #[(iV 0),(iV 0),(.string (⟨#[]⟩)),(.bool false)]) J T35 J F J C J J J ?_)))));have I: atS h.S x=some (PB.fn aq X):=by rw [<- G];exact aK V
    have T:=a5;simp only [Bool.not_eq_true',Bool.not_eq_false'] at T;have Y:=ae;simp only [Bool.not_eq_true',Bool.not_eq_false'] at Y;have F:=F.fd [0,0] J;have O: h.reuse x s xs=(h,(Wd.zero,1)):=by
     unfold HS.reuse;rw [I];dsimp only;rw [if_neg (by rw [T];simp)];rw [if_pos Y]
    rw [O];exact⟨_,rfl,⟨bs,G,a1⟩,F.plain⟩
   ·refine ah C J (wp_seq (ab (Lm J C fun a C=>?_)));refine Lm J C fun a C=>?_;have bz:=eH (F.tail [(eO a0 35 #[(iV 0),(iV 0),(.string (⟨#[]⟩)),(.bool false)]),a3]) a1 (hr.at_ (H':=H) F (bx [(eO a0 35 #[(iV 0),(iV 0),(.string (⟨#[]⟩)),(.bool false)]),a3]));refine lin J (Co func55 C J (bz) ?_);rintro e w ⟨rfl,aj⟩;refine⟨_,rfl,fun a C=>?_⟩;have F:=F.frameR [(eO a0 35 #[(iV 0),(iV 0),(.string (⟨#[]⟩)),(.bool false)]),a3] aj;refine lin J (aS C J J fun a C=>?_);refine Ls J C fun a C=>?_;refine wpList_nil (aa (au (t:=36) C J (fun b0 C=>?_) (fun b0 C=>?_)))
    ·refine ap C J (wp_seq (ab (lin J (aG (vs:= []) (cells:= [(iV 0),(iV 0),(.string (⟨#[]⟩)),(.bool false)]) T35 PL35 C (C.evp J) J J fun a C=>?_))));refine lin J (ak (cs':= #[(iV 0),(iV 0),(.string (⟨#[]⟩)),(.bool false)]) T35 F (i:=0) J C J J J J J J fun a w F C=>?_);refine Ls J C fun a C=>?_;refine wpList_nil (aa (wp_ret (aA (ai (retA1 (i:=0) (cs:= #[(iV 0),(iV 0),(.string (⟨#[]⟩)),(.bool false)]) J T35 J F J C J J J ?_)))));have I: atS h.S x=some (PB.fn aq X):=by rw [<- G];exact aK V
     have T:=a5;simp only [Bool.not_eq_true',Bool.not_eq_false'] at T;have Y:=ae;simp only [Bool.not_eq_true',Bool.not_eq_false'] at Y;have Z:=b0;simp only [Bool.not_eq_true',Bool.not_eq_false'] at Z;rw [G] at Z;have F:=F.fd [0,0] J;have O: h.reuse x s xs=(h,(Wd.zero,211)):=by
      unfold HS.reuse;rw [I];dsimp only;rw [if_neg (by rw [T];simp)];rw [if_neg (by rw [Y];simp)];rw [if_pos Z]
     rw [O];exact⟨_,rfl,⟨bs,G,a1⟩,F.plain⟩
    ·refine ah C J (wp_seq (ab (Lm J C fun a C=>?_)));refine lin J (aI T37.und C J J fun a C=>?_);refine Lm J C fun a C=>?_;refine lin J (av C J J fun a C=>?_);obtain⟨b3,b5,b7,b9,a4,a9,ba,bo,a7,a8,b1,bf,bc,a6⟩:=(a1).open_;have F:=Step.castR [(eO a0 35 #[(iV 0),(iV 0),(.string (⟨#[]⟩)),(.bool false)]),a3] bo F;obtain⟨b2,am,bn⟩:=a6.get an;obtain⟨b6,b8,bk,c8,c4⟩:=bn;have bi:=bg am;have cc:=bp am;have cd:=bt am;rw [bk] at bi;have bj:=a6.ok _ _ an;have c9: X.length<=64:=bj;refine lin J (ac (f:=1) (o2:=1) T113 T37 J J J J C J J fun a C=>?_);refine lin J (af (v:=(.slice b6 X.length b8)) T37 J C J (F.at_mem [(eO a0 35 #[(iV 0),(iV 0),(.string (⟨#[]⟩)),(.bool false)]),a3,(eO p 103 #[(.slice b3 bs.length b5),(.slice b7 bs.length b9),(iV h.u)]),a4,a9] bi) J J fun a C=>?_);refine lin J (aI T37.und C J J fun a C=>?_);refine lin J (bE (i:=((xs.length: Nat): Int)) (j:=((X.length: Nat): Int)) C J J J fun a C=>?_);refine Ls J C fun a C=>?_;let ax:=(eO p 103 #[(.slice b3 bs.length b5),(.slice b7 bs.length b9),(iV h.u)]);refine wpList_nil (aa (aQ (t:=42) C J (fun bm C=>?_) (fun bm C=>?_)))
     ·refine ap C J (wp_seq (ab (lin J (aG (vs:= []) (cells:= [(iV 0),(iV 0),(.string (⟨#[]⟩)),(.bool false)]) T35 PL35 C (C.evp J) J J fun a C=>?_))));refine lin J (ak (cs':= #[(iV 0),(iV 0),(.string (⟨#[]⟩)),(.bool false)]) T35 F (i:=0) J C J J J J J J fun a w F C=>?_);refine Ls J C fun a C=>?_;refine wpList_nil (aa (wp_ret (aA (ai (retA1 (i:=0) (cs:= #[(iV 0),(iV 0),(.string (⟨#[]⟩)),(.bool false)]) J T35 J F J C J J J ?_)))));have I: atS h.S x=some (PB.fn aq X):=by rw [<- G];exact aK V
      have T:=a5;simp only [Bool.not_eq_true',Bool.not_eq_false'] at T;have Y:=ae;simp only [Bool.not_eq_true',Bool.not_eq_false'] at Y;have Z:=b0;simp only [Bool.not_eq_true',Bool.not_eq_false'] at Z;rw [G] at Z;have br: HP p bs h.tk h.u (ax::a4::a9::(fl3 ba)):=HP.mk' (by first | exact a7 | exact List.length_set.trans a7 |(simp only [List.length_set];done) |(simp only [List.length_set];exact a7)) (by first | exact a8 | exact List.length_set.trans a8 |(simp only [List.length_set];done) |(simp only [List.length_set];exact a8)) b1 bf bc a6;have F:=F.fd [0,0] J;have O: h.reuse x s xs=(h,(Wd.zero,1)):=by
       unfold HS.reuse;rw [I];dsimp only;rw [if_neg (by rw [T];simp)];rw [if_neg (by rw [Y];simp)];rw [if_neg (by rw [Z];simp)];rw [if_pos j0]
      rw [O];exact⟨_,rfl,⟨bs,G,br⟩,F.plain⟩
     ·refine ah C J (wp_skip (ao (aa (wp_seq ?_))));have ca: xs.length=X.length:=by omega
      refine ab (Lm J C fun a C=>?_);refine Lm J C fun a C=>?_;refine Lm J C fun a C=>?_;refine Lm J C fun a C=>?_;have c0:=bH F.inv.nil (hr.at_ (H':=H) F (fun _ bh=>absurd bh bT));refine lin J (Co func63 C J (c0) ?_);rintro e w ⟨aw,ay,az,rfl,bv,aj⟩;refine⟨_,rfl,fun a C=>?_⟩;have F:=F.call_own aj;have F:=Step.ex3 (Es:= [az,(eO a0 35 #[(iV 0),(iV 0),(.string (⟨#[]⟩)),(.bool false)]),a3,ax,a4,a9]) F am;rw [bk] at F;refine lin J (av C J J fun a C=>?_);refine lin J (ac (f:=0) (o2:=0) T113 T9 J J J J C J J fun a C=>?_);refine lin J (ak (cs':= #[(.string s),(.slice b6 X.length b8)]) T9 F (i:=6) J C J J J J J J fun a w F C=>?_);refine lin J (av C J J fun a C=>?_);refine lin J (ac (f:=1) (o2:=1) T113 T37 J J J J C J J fun a C=>?_);refine lin J (ak (cs':= #[(.string s),(.slice aw xs.length ay)]) T37 F (i:=6) J C J J J J J J fun a w F C=>?_);refine wpList_nil (aa (wp_seq (ab (lin J (al (vs:=(wL x)) T35 J C J (F.blkL 2 J) J (ag J) J fun a C=>?_)))));refine lin J (ak (cs':=(wA x)) T35 F (i:=1) J C J J J J J J fun a w F C=>?_);refine Ls J C fun a C=>?_;refine wpList_nil (aa (wp_ret (retA1 (i:=1) (cs:=(wA x)) J T35 J F J C J J J ?_)));have I: atS h.S x=some (PB.fn aq X):=by rw [<- G];exact aK V
      have T:=a5;simp only [Bool.not_eq_true',Bool.not_eq_false'] at T;have Y:=ae;simp only [Bool.not_eq_true',Bool.not_eq_false'] at Y;have Z:=b0;simp only [Bool.not_eq_true',Bool.not_eq_false'] at Z;rw [G] at Z;have F:=F.fd [9,2,8,8,8,8,9,9,9] J;have F:=Step.hd3 (Es:= [(eO a0 35 (wA x)),a3,b2.2.1,ax,a4,a9]) (t':=((eO a2 113 #[(.string s),(.slice aw xs.length ay)]),az,b2.2.2)) am F;have a6:=a6.set (j:=x.n.toNat) (o:=some (a2,(PB.fn s xs))) (t:=((eO a2 113 #[(.string s),(.slice aw xs.length ay)]),az,b2.2.2)) ⟨_,_,rfl,bv,c4⟩ (fun c7 bl=>by obtain rfl:=Option.some.inj bl;exact(show xs.length<=64 by have bh:=bj;omega));have b1: Row (.slice b3 bs.length b5) a4 105 1 bs.length (gfl bkc (bs.set x.n.toNat (some (a2,(PB.fn s xs))))):=by rw [bM (o:=some (a2,(PB.fn s xs))) an J];exact b1
      have F:=F.fd [0,0,0] J;have bw:=F.plain;have c3: HK p (h.setB x.n.toNat (PB.fn s xs)) (ax::a4::a9::(fl3 (ba.set x.n.toNat ((eO a2 113 #[(.string s),(.slice aw xs.length ay)]),az,b2.2.2)))):=HK.setB (q:=a2) G (HP.mk' (by first | exact a7 | exact List.length_set.trans a7 |(simp only [List.length_set];done) |(simp only [List.length_set];exact a7)) (by first | exact a8 | exact List.length_set.trans a8 |(simp only [List.length_set];done) |(simp only [List.length_set];exact a8)) b1 bf bc a6);have O: h.reuse x s xs=(h.setB x.n.toNat (PB.fn s xs),(x,0)):=by
       unfold HS.reuse;rw [I];dsimp only;rw [if_neg (by rw [T];simp)];rw [if_neg (by rw [Y];simp)];rw [if_neg (by rw [Z];simp)];rw [if_neg j0]
      rw [O];exact⟨_,rfl,c3,bw⟩
 ·have an:=(ar V).2.2.2.1;refine lin J (aP T110 C J J J fun a C=>?_);refine Lm J C fun a C=>?_;refine lin J (ad (v:=(.pointer none)) C J J J fun a C=>?_);refine lin J (ad (v:=(.bool false)) C J J J fun a C=>?_);refine Ls J C fun a C=>?_;refine Ls J C fun a C=>?_;refine wpList_nil (aa (wp_seq (wp_block (wp_seq (ab (Lm J C fun a C=>?_))))));refine lin J (aS C J J fun a C=>?_);refine Ls J C fun a C=>?_;refine wpList_nil (aa (ap C J (wp_seq (ab (lin J (aG (vs:= []) (cells:= [(iV 0),(iV 0),(.string (⟨#[]⟩)),(.bool false)]) T35 PL35 C (C.evp J) J J fun a C=>?_))))));refine lin J (ak (cs':= #[(iV 0),(iV 0),(.string (⟨#[]⟩)),(.bool false)]) T35 F (i:=0) J C J J J J J J fun a w F C=>?_);refine Ls J C fun a C=>?_;refine wpList_nil (aa (wp_ret (aA (ai (retA1 (i:=0) (cs:= #[(iV 0),(iV 0),(.string (⟨#[]⟩)),(.bool false)]) J T35 J F J C J J J ?_)))));have I: atS h.S x=some (PB.vec X):=by rw [<- G];exact aK V
  have F:=F.fd [0,0] J;have O: h.reuse x s xs=(h,(Wd.zero,211)):=by
   unfold HS.reuse;rw [I]
  rw [O];exact⟨_,rfl,⟨bs,G,a1⟩,F.plain⟩
end Go.Vk.Tryz
namespace Go.Vk
def takeK: List Wd->List Int->List Wd × List Wd
 | ws, []=>([],ws)
 | ws,k::ks=>((takeP ws k).1::(takeK (takeP ws k).2 ks).1,(takeK (takeP ws k).2 ks).2)
theorem dZ: ∀(ks: List Int) (ws: List Wd) (k: Int),takeK ws (ks++ [k])=((takeK ws ks).1++ [(takeP (takeK ws ks).2 k).1],(takeP (takeK ws ks).2 k).2)
 | [],ws,k=>rfl
 | q::ks,ws,k=>by
  rw [List.cons_append,takeK,takeK,dZ ks];rfl
theorem dP: ∀(ks: List Int) (ws: List Wd),(takeK ws ks).1.length=ks.length/\(takeK ws ks).2.length<=ws.length
 | [],ws=>⟨rfl,Nat.le_refl _⟩
 | k::ks,ws=>by
  have h1:=dP ks (takeP ws k).2;have h2:=bw ws k;rw [takeK];exact⟨by rw [List.length_cons,List.length_cons,h1.1],by dsimp only;omega⟩
def occV (n: Int) (t: Tm): Bool:=(nds t).any fun x=>decide (x.kind=1)&&decide (x.n=n)
def insP (S: PS) (v y: Wd): Bool:=if ¬(readS S y).2=0\/¬(readS S v).2=0\/¬(readS S v).1.kind=1 then true else occV (readS S v).1.n (readS S y).1
structure StV where
 kd: Int
 a: Int
 b: Int
 c: Int
def StV.cells (x: StV): List Value:= [.int .i64 x.kd,.int .i64 x.a,.int .i64 x.b,.int .i64 x.c]
theorem StV.len (x: StV): x.cells.length=4:=rfl
abbrev Sta:=HS × List Wd × List Wd
def gS: ByteArray:=⟨#[103]⟩
def fS: ByteArray:=⟨#[102]⟩
inductive SR (x: StV): Sta->Sta->Prop
 | var {h: HS} {ws bs: List Wd} (e: h.var.2.2=0): SR x (h,ws,bs) (h.var.1,ws++ [h.var.2.1],bs++ [shW h.var.2.1])
 | var0 {h: HS} {ws bs: List Wd} (e: ¬ h.var.2.2=0): SR x (h,ws,bs) (h.var.1,ws,bs)
 | fn {h: HS} {ws bs ws1 ws2: List Wd} {y z: Wd} (e1: takeP ws x.a=(y,ws1)) (e2: shareP ws1 x.b=(z,ws2)): SR x (h,ws,bs) ((h.fun_ fS [y,z]).1,holdP ws2 (h.fun_ fS [y,z]).2.1 (h.fun_ fS [y,z]).2.2,bs)
 | vec {h: HS} {ws bs ws1 ws2 ws3: List Wd} {y z u: Wd} (e1: takeP ws x.a=(y,ws1)) (e2: takeP ws1 x.b=(z,ws2)) (e3: takeP ws2 x.c=(u,ws3)): SR x (h,ws,bs) ((h.vec [y,z,u]).1,holdP ws3 (h.vec [y,z,u]).2.1 (h.vec [y,z,u]).2.2,bs)
 | same {h: HS} {ws bs: List Wd}: SR x (h,ws,bs) (h,ws,bs)
 | ins {h: HS} {ws bs ws1: List Wd} {y v: Wd} {i: Nat} (e1: takeP ws x.b=(y,ws1)) (hv: bs[i]? =some v): SR x (h,ws,bs) (h,ws1++ [y],bs.eraseIdx i++ [v])
 | bnd {h: HS} {ws bs ws1: List Wd} {y v: Wd} {i: Nat} (hk: ixZ x.kd 9=3) (e1: takeP ws x.b=(y,ws1)) (hv: bs[i]? =some v) (hi: insP h.S v y=false): SR x (h,ws,bs) ((h.bind v y).1,ws1,bs.eraseIdx i)
 | free {h: HS} {ws bs ws1: List Wd} {w: Wd} (k: Int) (e1: takeP ws k=(w,ws1)) (e:(h.free w).2.2=0): SR x (h,ws,bs) ((h.free w).1,ws1++(h.free w).2.1,bs)
 | back {h: HS} {ws bs ws1: List Wd} {w: Wd} (k: Int) (e1: takeP ws k=(w,ws1)): SR x (h,ws,bs) (h,ws1++ [w],bs)
 | reuse {h: HS} {ws bs ws1 l: List Wd} {w: Wd} (ks: List Int) (hk: ixZ x.kd 9=5) (k: Int) (e1: takeP ws k=(w,ws1)) (ht: w.tag=5) (ho: w.one=true) (hp:(partsS h.S w).2.2=0) (hl:(partsS h.S w).2.1=l) (hn: ks.length=l.length): SR x (h,ws,bs) ((h.reuse w gS (takeK ws1 ks).1).1,holdP (takeK ws1 ks).2 (h.reuse w gS (takeK ws1 ks).1).2.1 (h.reuse w gS (takeK ws1 ks).1).2.2++l,bs)
 | back2 {h: HS} {ws bs ws1 ws2: List Wd} {w y: Wd} (e1: takeP ws x.a=(w,ws1)) (e2: takeP ws1 x.b=(y,ws2)): SR x (h,ws,bs) (h,ws2++ [w,y],bs)
 | updi {h: HS} {ws bs ws1 ws2 l: List Wd} {w y: Wd} {i: Int} (hk: ixZ x.kd 9=6) (e1: takeP ws x.a=(w,ws1)) (e2: takeP ws1 x.b=(y,ws2)) (ht: w.tag=6) (hp:(partsS h.S w).2.2=0) (hl:(partsS h.S w).2.1=l) (hi: 0<=i/\i < l.length) (e:(h.update w i y).2.2.2.2=0) (h1:(h.update w i y).2.2.2.1=true): SR x (h,ws,bs) ((h.update w i y).1,ws2++ [(h.update w i y).2.1,(h.update w i y).2.2.1],bs)
 | updc {h: HS} {ws bs ws1 ws2 l: List Wd} {w y: Wd} {i: Int} (e1: takeP ws x.a=(w,ws1)) (e2: takeP ws1 x.b=(y,ws2)) (ht: w.tag=6) (hp:(partsS h.S w).2.2=0) (hl:(partsS h.S w).2.1=l) (hi: 0<=i/\i < l.length) (e:(h.update w i y).2.2.2.2=0) (h1:(h.update w i y).2.2.2.1=false): SR x (h,ws,bs) ((h.update w i y).1,ws2++ [(h.update w i y).2.1,(h.update w i y).2.2.1]++ [w],bs)
 | shr {h: HS} {ws bs: List Wd}: SR x (h,ws,bs) (h,(shareP ws x.a).2,bs)
theorem DI.takeK {h: HS} {bs: List Wd}: ∀(ks: List Int) {ws pool: List Wd},DI h (ws++pool) bs->DI h ((Go.Vk.takeK ws ks).1++((Go.Vk.takeK ws ks).2++pool)) bs
 | [],ws,pool,hd=>hd
 | k::ks,ws,pool,hd=>by
  have h1:=hd.take k;have h2: DI h ((takeP ws k).2++((takeP ws k).1::pool)) bs:=h1.perm List.perm_middle.symm;have h3:=DI.takeK ks h2;rw [Go.Vk.takeK];refine h3.perm ?_;rw [List.cons_append,<- List.append_assoc,<- List.append_assoc];exact List.perm_middle
theorem fJ {S: PS} {w: Wd} (ht: w.tag=5) (hp:(partsS S w).2.2=0): ∃ s,atS S w=some (.fn s (partsS S w).2.1):=by
 unfold partsS at hp ⊢
 cases ha: atS S w with
 | none=>rw [ha] at hp;cases hp
 | some b =>
  have h5:=(ar ha).2.2.2.2
  cases b with
  | var to hk=>rw [ha] at hp;cases hp
  | fn s l=>exact ⟨s,rfl⟩
  | vec l=>simp [PB.tag] at h5;omega
theorem dM {S: PS} {w: Wd} (ht: w.tag=6) (hp:(partsS S w).2.2=0): atS S w=some (.vec (partsS S w).2.1):=by
 unfold partsS at hp ⊢
 cases ha: atS S w with
 | none=>rw [ha] at hp;cases hp
 | some b =>
  have h5:=(ar ha).2.2.2.2
  cases b with
  | var to hk=>rw [ha] at hp;cases hp
  | fn s l=>simp [PB.tag] at h5;omega
  | vec l=>rfl
theorem fM {S: PS} {v: Wd} (h: Unb S v) (hw: wordS S v=true):(readS S v).1=.mk 1 v.n ⟨#[]⟩ []:=by
 have hf:=unb_follow h;unfold readS;rw [if_neg (by rw [hw];simp),show (600: Nat)=599+1 from rfl,bU (by rw [hf]) j0 (by rw [hf];show ¬ v.tag=1;rw [h.1];omega) (by rw [hf];show ¬ v.tag=2;rw [h.1];omega) (by rw [hf];show ¬ v.tag=3;rw [h.1];omega),hf];dsimp only;rw [h.2.2]
theorem ec {h: HS} {ws bs: List Wd} {v: Wd} {i: Nat} (hd: DI h ws bs) (hv: bs[i]? =some v): DI h ws (v::bs.eraseIdx i):=by
 obtain⟨hl,hx⟩:=List.getElem?_eq_some_iff.1 hv;refine hd.permB ?_;have:=(bC hl).symm
 rwa [hx] at this
theorem SR.di {x: StV} {h h': HS} {ws ws' bs bs': List Wd} (hs: SR x (h,ws,bs) (h',ws',bs')) (hd: DI h ws bs): DI h' ws' bs':=by
 have nil_: ∀ {ws: List Wd},DI h ws bs->DI h (ws++ []) bs:=fun hd=>by rw [List.append_nil];exact hd
 have tk: ∀ {ws ws1 pool: List Wd} {k: Int} {y: Wd},DI h (ws++pool) bs->takeP ws k=(y,ws1)->DI h (y::(ws1++pool)) bs:=fun {ws ws1 pool k y} hd e=>by
  have:=hd.take k
  rwa [e] at this
 cases hs with
 | var e=>exact hd.var.1 e
 | var0 e=>rw [hd.var.2 e];exact hd
 | fn e1 e2 =>
  rename_i ws1 ws2 y z
  have h1:=tk (nil_ hd) e1;have h2: DI h (ws1++ [y]) bs:=(h1.perm (by rw [List.append_nil];exact List.perm_append_comm (l₁:= [y]) (l₂:=ws1)));have h3:=h2.shareW x.b;rw [e2] at h3;refine DI.hfun (args:= [y,z]) (h3.perm ?_) j1 j3 j3;refine(List.Perm.cons _ (List.perm_append_comm (l₁:=ws2) (l₂:= [y]))).trans ?_;exact List.Perm.swap _ _ _
 | vec e1 e2 e3 =>
  rename_i ws1 ws2 ws3 y z u
  have h1:=tk (nil_ hd) e1;have h2: DI h (ws1++ [y]) bs:=(h1.perm (by rw [List.append_nil];exact List.perm_append_comm (l₁:= [y]) (l₂:=ws1)));have h3:=tk h2 e2;have h4: DI h (ws2++ [z,y]) bs:=h3.perm (by
   refine(List.perm_append_comm (l₁:= [z]) (l₂:=ws2++ [y])).trans ?_;rw [List.append_assoc];exact List.Perm.append_left _ (List.Perm.swap _ _ _))
  have h5:=tk h4 e3;refine DI.hvec (args:= [y,z,u]) (h5.perm ?_) j3;refine(List.Perm.cons _ (List.perm_append_comm (l₁:=ws3) (l₂:= [z,y]))).trans ?_
  show (u::z::y::ws3).Perm (y::z::u::ws3)
  exact((List.Perm.cons _ (List.Perm.swap _ _ _)).trans (List.Perm.swap _ _ _)).trans (List.Perm.cons _ (List.Perm.swap _ _ _))
 | same=>exact hd
 | ins e1 hv =>
  have h1:=tk (nil_ hd) e1;rw [List.append_nil] at h1;exact(ec h1.snoc hv).permB (List.perm_append_comm (l₁:= [_]))
 | bnd hk e1 hv hi =>
  rename_i y v i
  have h1:=tk (nil_ hd) e1;rw [List.append_nil] at h1;have h2:=ec h1 hv;unfold insP at hi
  split at hi
  ·cases hi
  ·rename_i hno
   have hr:(readS h.S y).2=0:=Classical.byContradiction fun e=>hno (.inl e);have hu:=h2.bv v List.mem_cons_self;have hrv:=fM hu (co hu.2.2);obtain⟨g,hb,_,hd'⟩:=h2.bind (T:=(readS h.S y).1) (Prod.ext J hr) (fun hk hn=>by
    rw [hrv] at hi;unfold occV at hi;rw [List.any_eq_false] at hi;refine hi (readS h.S y).1 (by cases (readS h.S y).1;rw [nds];exact List.mem_cons_self) ?_;rw [Bool.and_eq_true,decide_eq_true_eq,decide_eq_true_eq];exact⟨hk,hn⟩)
   rw [hb];exact hd'
 | free k e1 e =>
  rename_i ws1 w
  have h1:=tk (nil_ hd) e1;rw [List.append_nil] at h1;have:=h1.free (l:=(h.free w).2.1) (h':=(h.free w).1) (by rw [<- e]);exact this.perm List.perm_append_comm
 | back k e1 =>
  have h1:=tk (nil_ hd) e1;rw [List.append_nil] at h1;exact h1.snoc
 | reuse ks hk k e1 ht ho hp hl hn =>
  rename_i ws1 l w
  have h1:=tk (nil_ hd) e1;rw [List.append_nil] at h1;have h2: DI h (ws1++ [w]) bs:=h1.snoc;have h3:=h2.takeK ks;obtain⟨s0,ha⟩:=fJ ht hp;rw [hl] at ha;have h4: DI h (w::((takeK ws1 ks).1++(takeK ws1 ks).2)) bs:=h3.perm (by
   rw [<- List.append_assoc];exact List.perm_append_comm)
  obtain⟨g,hb,hd'⟩:=h4.reuse (s:=gS) ha ho j1 (by rw [(dP ks ws1).1,hn]);rw [hb,ei];exact hd'
 | back2 e1 e2 =>
  rename_i ws1 ws2 w y
  have h1:=tk (nil_ hd) e1;have h2: DI h (ws1++ [w]) bs:=(h1.perm (by rw [List.append_nil];exact List.perm_append_comm (l₁:= [w]) (l₂:=ws1)));have h3:=tk h2 e2;refine h3.perm ?_;refine(List.perm_append_comm (l₁:= [y]) (l₂:=ws2++ [w])).trans ?_;rw [List.append_assoc];exact List.Perm.refl _
 | updi hk e1 e2 ht hp hl hi e h1' =>
  rename_i ws1 ws2 l w y i
  have h1:=tk (nil_ hd) e1;have h2: DI h (ws1++ [w]) bs:=(h1.perm (by rw [List.append_nil];exact List.perm_append_comm (l₁:= [w]) (l₂:=ws1)));have h3: DI h (w::y::ws2) bs:=(tk h2 e2).perm ((List.Perm.cons _ (List.perm_append_comm (l₁:=ws2) (l₂:= [w]))).trans (List.Perm.swap _ _ _));have ha:=dM ht hp;rw [hl] at ha
  cases ho: w.one with
  | true =>
   obtain⟨g,hb,_,hd'⟩:=h3.update1 ha ho hi;rw [hb];exact hd'
  | false =>
   have:=((h3.update2 ha ho hi).1 e).1;rw [this] at h1';cases h1'
 | updc e1 e2 ht hp hl hi e h1' =>
  rename_i ws1 ws2 l w y i
  have h1:=tk (nil_ hd) e1;have h2: DI h (ws1++ [w]) bs:=(h1.perm (by rw [List.append_nil];exact List.perm_append_comm (l₁:= [w]) (l₂:=ws1)));have h3: DI h (w::y::ws2) bs:=(tk h2 e2).perm ((List.Perm.cons _ (List.perm_append_comm (l₁:=ws2) (l₂:= [w]))).trans (List.Perm.swap _ _ _));have ha:=dM ht hp;rw [hl] at ha
  cases ho: w.one with
  | true =>
   obtain⟨g,hb,_,_⟩:=h3.update1 ha ho hi;rw [hb] at h1';cases h1'
  | false=>exact ((h3.update2 ha ho hi).1 e).2
 | shr =>
  have h1:=(nil_ hd).shareW x.a;rw [List.append_nil] at h1;exact h1.tail
theorem DI.tk {h: HS} {ws ws1 bs: List Wd} {k: Int} {y: Wd} (hd: DI h ws bs) (e: takeP ws k=(y,ws1)): DI h (y::ws1) bs:=by
 have h1: DI h (ws++ []) bs:=by rw [List.append_nil];exact hd
 have:=h1.take k
 rwa [e,List.append_nil] at this
theorem gz {S: PS} {v y: Wd} (hi: insP S v y=false):(readS S y).2=0/\occV (readS S v).1.n (readS S y).1=false:=by
 unfold insP at hi
 split at hi
 ·cases hi
 ·rename_i hno
  exact⟨Classical.byContradiction fun e=>hno (.inl e),hi⟩
theorem DI.bind_ok {h: HS} {ws ws1 bs: List Wd} {k: Int} {y v: Wd} {i: Nat} (hd: DI h ws bs) (e: takeP ws k=(y,ws1)) (hv: bs[i]? =some v) (hi: insP h.S v y=false):(h.bind v y).2=([],0):=by
 have h2:=ec (hd.tk e) hv;obtain⟨hr,ho⟩:=gz hi;have hu:=h2.bv v List.mem_cons_self;have hrv:=fM hu (co hu.2.2);obtain⟨g,hb,_,_⟩:=h2.bind (T:=(readS h.S y).1) (Prod.ext J hr) (fun hk hn=>by
  rw [hrv] at ho;unfold occV at ho;rw [List.any_eq_false] at ho;refine ho (readS h.S y).1 (by cases (readS h.S y).1;rw [nds];exact List.mem_cons_self) ?_;rw [Bool.and_eq_true,decide_eq_true_eq,decide_eq_true_eq];exact⟨hk,hn⟩)
 rw [hb]
theorem DI.reuse_ok {h: HS} {ws ws1 bs l: List Wd} {k: Int} {w: Wd} {ks: List Int} (hd: DI h ws bs) (e: takeP ws k=(w,ws1)) (ht: w.tag=5) (ho: w.one=true) (hp:(partsS h.S w).2.2=0) (hl:(partsS h.S w).2.1=l) (hn: ks.length=l.length):(h.reuse w gS (Go.Vk.takeK ws1 ks).1).2=(w,0):=by
 have h2: DI h (ws1++ [w]) bs:=(hd.tk e).snoc;have h3:=h2.takeK ks;obtain⟨s0,ha⟩:=fJ ht hp;rw [hl] at ha;have h4: DI h (w::((Go.Vk.takeK ws1 ks).1++(Go.Vk.takeK ws1 ks).2)) bs:=h3.perm (by
  rw [<- List.append_assoc];exact List.perm_append_comm)
 obtain⟨g,hb,_⟩:=h4.reuse (s:=gS) ha ho j1 (by rw [(dP ks ws1).1,hn]);rw [hb]
theorem update_no {h: HS} {w y: Wd} {i: Int} (hf: ¬(h.update w i y).2.2.2.2=0):(h.update w i y).1=h:=by
 unfold HS.update at hf ⊢
 split
 ·rename_i l hb
  rw [hb] at hf;dsimp only at hf ⊢
  split
  ·rfl
  ·rename_i h1
   rw [if_neg h1] at hf
   split
   ·rfl
   ·rename_i h2
    rw [if_neg h2] at hf
    split
    ·rename_i h3
     rw [if_pos h3] at hf;exact absurd J hf
    ·rename_i h3
     rw [if_neg h3] at hf
     split
     ·rfl
     ·rename_i h4
      rw [if_neg h4] at hf;exact absurd J hf
 ·rfl
theorem free_len {h: HS} (hO: h.Ok) (w: Wd):(h.free w).2.1.length<=64:=by
 unfold HS.free
 cases hb: atS h.S w with
 | none=>exact Nat.zero_le _
 | some b =>
  have hw:=((hO.blk _ _ (ar hb).2.2.2.1).1).words;dsimp only
  split
  ·exact Nat.zero_le _
  ·split
   ·exact Nat.zero_le _
   ·exact hw
theorem parts_len {h: HS} (hO: h.Ok) (w: Wd):(partsS h.S w).2.1.length<=64:=by
 unfold partsS
 split
 ·rename_i s l hb
  exact((hO.blk _ _ (ar hb).2.2.2.1).1).words
 ·rename_i l hb
  exact((hO.blk _ _ (ar hb).2.2.2.1).1).words
 ·exact Nat.zero_le _
end Go.Vk
namespace Go.Vk.Tryz
open Go.RowKit
theorem ndsL_any (p: Tm->Bool): ∀ ts: List Tm,(ndsL ts).any p=ts.any fun t=>(nds t).any p
 | []=>by rw [ndsL];rfl
 | t::ts=>by rw [ndsL,List.any_append,List.any_cons,ndsL_any p ts]
theorem gi (n: Int) (t: Tm): occV n t=((decide (t.kind=1)&&decide (t.n=n))||t.l.any (occV n)):=by
 unfold occV;rw [gC,List.any_cons,ndsL_any]
theorem any_takeS {ts: List Tm} {p: Tm->Bool} {k: Nat} {t: Tm} (h: ts[k]? =some t) (h1:(ts.take k).any p=false) (h2: p t=false):(ts.take (k+1)).any p=false:=by
 rw [List.take_add_one,h,List.any_append,h1];simp [h2]
theorem c_IndexFuncV {ba bv cu: Nat} {Au: Option Addr} {u: Tm} {ts: List Tm} (hp: ∀(j: Nat) (t: Tm),ts[j]? =some t->∀(A: Option Addr) (c: Nat) (w: World) (H: PHeap),RowT H A c t.l->Inv w H [(eO ba 41 #[.int .i64 u.kind,.int .i64 u.n,.string u.s,.slice Au u.l.length cu]),(eO bv 73 #[.func (.func 99) #[] #[.pointer (some ⟨ba,0,none⟩),.pointer (some ⟨bv,0,none⟩)]])]->Calls prog 99 #[tv t A c,.pointer (some ⟨ba,0,none⟩),.pointer (some ⟨bv,0,none⟩)] w (fun e w'=>e=.returned (.bool (occV u.n t))/\Step w H [(eO ba 41 #[.int .i64 u.kind,.int .i64 u.n,.string u.s,.slice Au u.l.length cu]),(eO bv 73 #[.func (.func 99) #[] #[.pointer (some ⟨ba,0,none⟩),.pointer (some ⟨bv,0,none⟩)]])] w' H [(eO ba 41 #[.int .i64 u.kind,.int .i64 u.n,.string u.s,.slice Au u.l.length cu]),(eO bv 73 #[.func (.func 99) #[] #[.pointer (some ⟨ba,0,none⟩),.pointer (some ⟨bv,0,none⟩)]])])) {A: Option Addr} {c: Nat} {w0: World} {H: PHeap} (hr: RowT H A c ts) (hI: Inv w0 H [(eO ba 41 #[.int .i64 u.kind,.int .i64 u.n,.string u.s,.slice Au u.l.length cu]),(eO bv 73 #[.func (.func 99) #[] #[.pointer (some ⟨ba,0,none⟩),.pointer (some ⟨bv,0,none⟩)]])]): Calls prog 114 #[(.slice A ts.length c),(.func (.func 99) #[] #[.pointer (some ⟨ba,0,none⟩),.pointer (some ⟨bv,0,none⟩)])] w0 (fun e w'=> ∃ r: Int,e=.returned (iV r)/\(0<=r↔ts.any (occV u.n)=true)/\Step w0 H [(eO ba 41 #[.int .i64 u.kind,.int .i64 u.n,.string u.s,.slice Au u.l.length cu]),(eO bv 73 #[.func (.func 99) #[] #[.pointer (some ⟨ba,0,none⟩),.pointer (some ⟨bv,0,none⟩)]])] w' H [(eO ba 41 #[.int .i64 u.kind,.int .i64 u.n,.string u.s,.slice Au u.l.length cu]),(eO bv 73 #[.func (.func 99) #[] #[.pointer (some ⟨ba,0,none⟩),.pointer (some ⟨bv,0,none⟩)]])]):=by
 have C:=Step.refl hI;have af:=hr.len;refine enter [(.slice A ts.length c),(.func (.func 99) #[] #[.pointer (some ⟨ba,0,none⟩),.pointer (some ⟨bv,0,none⟩)])] func114 J ntmps114 J fun a q=>?_;refine wp_seq (ab (Ls J q fun a q=>?_));refine wpList_nil (aa (wp_seq (wp_seq (ab (Lm J q fun a q=>?_)))));refine lin J (aI T39.und q J J fun a q=>?_);refine Lm J q fun a q=>?_;refine wpList_nil (aa (wp_block (a6 (fun a5 a w=> ∃(k: Nat),a5=ts.length - k/\Has [] a 19 [(0,(.slice A ts.length c)),(1,(.func (.func 99) #[] #[.pointer (some ⟨ba,0,none⟩),.pointer (some ⟨bv,0,none⟩)])),(7,(iV ((ts.length: Nat): Int))),(8,(iV ((k: Nat): Int)))]/\Step w0 H [(eO ba 41 #[.int .i64 u.kind,.int .i64 u.n,.string u.s,.slice Au u.l.length cu]),(eO bv 73 #[.func (.func 99) #[] #[.pointer (some ⟨ba,0,none⟩),.pointer (some ⟨bv,0,none⟩)]])] w H [(eO ba 41 (tA u Au cu)),(eO bv 73 #[(.func (.func 99) #[] #[.pointer (some ⟨ba,0,none⟩),.pointer (some ⟨bv,0,none⟩)])])]/\(k<=ts.length)/\((ts.take k).any (occV u.n)=false)) _ ⟨0,rfl,q.pk J,C,j0,rfl⟩ ?_)));intro aj a w a2;obtain⟨k,ag,q,C,ae,G⟩:=a2;refine wp_seq (ab (lin J (bl (i:=((k: Nat): Int)) (j:=((ts.length: Nat): Int)) q J J J fun a q=>?_)));refine wpList_nil (aa (wp_seq (an (t:=9) q J (fun h2 q=>?_) (fun h2 q=>?_))))
 ·refine ap q J (wp_skip (aa (wp_seq (wp_block (wp_seq (ab (Lm J q fun a q=>?_)))))));refine Ls J q fun a q=>?_;refine wpList_nil (aa (wp_seq (ab (Lm J q fun a q=>?_))));refine Lm J q fun a q=>?_;refine Lm J q fun a q=>?_;obtain⟨a8,T,a7,ac,a9,ad,O,V,I,X,Z,a0,a4⟩:=hr.get (j:=k) j0;refine lin J (aC (b:=T) (o:=a7) (j:=k) T39.und T41 X q J J j0 j0 J fun a q=>?_);refine lin J (al (vs:=(tL a8 O V)) T41 J q J (C.blkH Z) J a0 J fun a q=>?_);have C:=C.fd [2,2] J;have a3:=hp _ _ I _ _ _ _ a4 (Inv.head [(eO ba 41 (tA u Au cu)),(eO bv 73 #[(.func (.func 99) #[] #[.pointer (some ⟨ba,0,none⟩),.pointer (some ⟨bv,0,none⟩)])])] (B:= []) C.inv);refine lin J (br func99 J J (q.evs J) q J J (a3) ?_);rintro e w ⟨rfl,a1⟩;refine⟨_,rfl,fun a q=>?_⟩;have C:=Step.frame (Lc:= [(eO ba 41 (tA u Au cu)),(eO bv 73 #[(.func (.func 99) #[] #[.pointer (some ⟨ba,0,none⟩),.pointer (some ⟨bv,0,none⟩)])])]) (R:= []) C a1;refine wpList_nil (aa (au (t:=16) q J (fun F q=>?_) (fun F q=>?_)))
  ·refine ap q J (wp_seq (ab (Lm J q fun a q=>?_)));refine Ls J q fun a q=>?_;refine wpList_nil (aa (wp_ret (aA (ai (ai (aA (ai (ret1 J q J ?_))))))));have Y: ts.any (occV u.n)=true:=List.any_eq_true.2 ⟨_,List.mem_of_getElem? I,by simpa using F⟩;rw [Y];exact⟨(k: Int),rfl,⟨fun _=>rfl,fun _=>by omega⟩,C⟩
  ·refine ah q J (wp_skip (ao (aa (ab (lin J (aL (i:=((k: Nat): Int)) (j:=1) q J J J j0 fun a q=>?_))))));refine Lm J q fun a q=>?_;refine wpList_nil (aa (?_));exact⟨ts.length - (k+1),by omega,(k+1),rfl,q.pk J,C,j0,(any_takeS I G (by simpa using F))⟩
 ·refine ah q J (wp_exit (az (az (aN (aa (wp_seq (ab (Ls J q fun a q=>?_))))))));refine wpList_nil (aa (wp_ret (ret1 J q J ?_)));rw [List.take_of_length_le j0] at G;rw [G];exact⟨-1,rfl,⟨fun h=>by omega,fun h=>by cases h⟩,C⟩
theorem c_ContainsFuncV {ba bv cu: Nat} {Au: Option Addr} {u: Tm} {ts: List Tm} (hp: ∀(j: Nat) (t: Tm),ts[j]? =some t->∀(A: Option Addr) (c: Nat) (w: World) (H: PHeap),RowT H A c t.l->Inv w H [(eO ba 41 #[.int .i64 u.kind,.int .i64 u.n,.string u.s,.slice Au u.l.length cu]),(eO bv 73 #[.func (.func 99) #[] #[.pointer (some ⟨ba,0,none⟩),.pointer (some ⟨bv,0,none⟩)]])]->Calls prog 99 #[tv t A c,.pointer (some ⟨ba,0,none⟩),.pointer (some ⟨bv,0,none⟩)] w (fun e w'=>e=.returned (.bool (occV u.n t))/\Step w H [(eO ba 41 #[.int .i64 u.kind,.int .i64 u.n,.string u.s,.slice Au u.l.length cu]),(eO bv 73 #[.func (.func 99) #[] #[.pointer (some ⟨ba,0,none⟩),.pointer (some ⟨bv,0,none⟩)]])] w' H [(eO ba 41 #[.int .i64 u.kind,.int .i64 u.n,.string u.s,.slice Au u.l.length cu]),(eO bv 73 #[.func (.func 99) #[] #[.pointer (some ⟨ba,0,none⟩),.pointer (some ⟨bv,0,none⟩)]])])) {A: Option Addr} {c: Nat} {w0: World} {H: PHeap} (hr: RowT H A c ts) (hI: Inv w0 H [(eO ba 41 #[.int .i64 u.kind,.int .i64 u.n,.string u.s,.slice Au u.l.length cu]),(eO bv 73 #[.func (.func 99) #[] #[.pointer (some ⟨ba,0,none⟩),.pointer (some ⟨bv,0,none⟩)]])]): Calls prog 75 #[(.slice A ts.length c),(.func (.func 99) #[] #[.pointer (some ⟨ba,0,none⟩),.pointer (some ⟨bv,0,none⟩)])] w0 (fun e w'=>e=.returned (.bool (ts.any (occV u.n)))/\Step w0 H [(eO ba 41 #[.int .i64 u.kind,.int .i64 u.n,.string u.s,.slice Au u.l.length cu]),(eO bv 73 #[.func (.func 99) #[] #[.pointer (some ⟨ba,0,none⟩),.pointer (some ⟨bv,0,none⟩)]])] w' H [(eO ba 41 #[.int .i64 u.kind,.int .i64 u.n,.string u.s,.slice Au u.l.length cu]),(eO bv 73 #[.func (.func 99) #[] #[.pointer (some ⟨ba,0,none⟩),.pointer (some ⟨bv,0,none⟩)]])]):=by
 have C:=Step.refl hI;refine enter [(.slice A ts.length c),(.func (.func 99) #[] #[.pointer (some ⟨ba,0,none⟩),.pointer (some ⟨bv,0,none⟩)])] func75 J ntmps75 J fun a q=>?_;refine wp_seq (ab (Ls J q fun a q=>?_));refine wpList_nil (aa (wp_seq (ab (Lm J q fun a q=>?_))));refine Lm J q fun a q=>?_;have I:=c_IndexFuncV hp hr hI;refine lin J (Co func114 q J (I) ?_);rintro e w ⟨O,rfl,G,F⟩;refine⟨_,rfl,fun a q=>?_⟩;have C:=Step.frame (Lc:= [(eO ba 41 #[.int .i64 u.kind,.int .i64 u.n,.string u.s,.slice Au u.l.length cu]),(eO bv 73 #[.func (.func 99) #[] #[.pointer (some ⟨ba,0,none⟩),.pointer (some ⟨bv,0,none⟩)]])]) (R:= []) C F;refine lin J (eQ (i:=O) (j:=0) q J J J fun a q=>?_);refine Ls J q fun a q=>?_;refine wpList_nil (aa (wp_ret (ret1 J q J ?_)));refine⟨congrArg _ (congrArg _ ?_),C⟩;rw [Bool.eq_iff_iff,decide_eq_true_eq];exact G
theorem c_visit {ba bv cu: Nat} {Au: Option Addr} {u: Tm}: ∀(t: Tm),∀(A: Option Addr) (c: Nat) (w: World) (H: PHeap),RowT H A c t.l->Inv w H [(eO ba 41 #[.int .i64 u.kind,.int .i64 u.n,.string u.s,.slice Au u.l.length cu]),(eO bv 73 #[.func (.func 99) #[] #[.pointer (some ⟨ba,0,none⟩),.pointer (some ⟨bv,0,none⟩)]])]->Calls prog 99 #[tv t A c,.pointer (some ⟨ba,0,none⟩),.pointer (some ⟨bv,0,none⟩)] w (fun e w'=>e=.returned (.bool (occV u.n t))/\Step w H [(eO ba 41 #[.int .i64 u.kind,.int .i64 u.n,.string u.s,.slice Au u.l.length cu]),(eO bv 73 #[.func (.func 99) #[] #[.pointer (some ⟨ba,0,none⟩),.pointer (some ⟨bv,0,none⟩)]])] w' H [(eO ba 41 #[.int .i64 u.kind,.int .i64 u.n,.string u.s,.slice Au u.l.length cu]),(eO bv 73 #[.func (.func 99) #[] #[.pointer (some ⟨ba,0,none⟩),.pointer (some ⟨bv,0,none⟩)]])]):=by
 refine Tm.ind fun t ih=>?_;intro A c w0 H hr Z;have C:=Step.refl Z;refine enter [(tv t A c),(pB ba),(pB bv)] func99 J ntmps99 J fun a q=>?_;refine wp_seq (ab (lin J (aV (cs:=(tA t A c)) C q J J J fun Y a w C q=>?_)));refine Ls J q fun a q=>?_;refine wpList_nil (aa (wp_seq (ab (lin J (ac (f:=0) (o2:=0) T41 T3 J J J J q J J fun a q=>?_)))));refine lin J (af (v:=(iV t.kind)) T3 J q J (C.blkL 0 J) J J fun a q=>?_);refine lin J (bn (i:=t.kind) (j:=1) q J J J fun a q=>?_);refine Lm J q fun a q=>?_;let G:=(eO Y 41 (tA t A c));let F:=(eO ba 41 (tA u Au cu));refine an (t:=8) q J (fun I q=>?_) (fun I q=>?_)
 ·refine ae J q J J J (ac (f:=1) (o2:=1) T41 T3 J J J J q J J fun a q=>?_);refine ae J q J J J (af (v:=(iV t.n)) T3 J q J (C.blkL 0 J) J J fun a q=>?_);refine ae J q J J J (ac (f:=1) (o2:=1) T41 T3 J J J J q J J fun a q=>?_);refine ae J q J J J (af (v:=(iV u.n)) T3 J q J (C.blkL 1 J) J J fun a q=>?_);refine ae J q J J J (bn (i:=t.n) (j:=u.n) q J J J fun a q=>?_);refine lin J (aq q J J J fun a q=>?_);refine Lm J q fun a q=>?_;refine an (t:=15) q J (fun O q=>?_) (fun O q=>?_)
  ·refine Lf J q J J fun a q=>?_;refine Lf J q J J fun a q=>?_;refine Lf J q J J fun a q=>?_;refine Lf J q J J fun a q=>?_;refine lin J (aq q J J J fun a q=>?_);refine Ls J q fun a q=>?_;refine wpList_nil (aa (wp_ret (ret1 J q J ?_)));have C:=C.drop;rw [gi];have X:=I;have a4:=O;exact⟨by simp [*],C⟩
  ·refine ae J q J J J (ac (f:=3) (o2:=3) T41 T39 J J J J q J J fun a q=>?_);refine ae J q J J J (af (v:=(.slice A t.l.length c)) T39 J q J (C.blkL 0 J) J J fun a q=>?_);refine ae J q J J J (af (v:=(.func (.func 99) #[] #[.pointer (some ⟨ba,0,none⟩),.pointer (some ⟨bv,0,none⟩)])) T73 J q J (C.blkL 2 J) J J fun a q=>?_);have C:=C.fd [3,3] J;have a2:=c_ContainsFuncV (fun j V T=>ih j V T) hr (Inv.head [F,(eO bv 73 #[(.func (.func 99) #[] #[.pointer (some ⟨ba,0,none⟩),.pointer (some ⟨bv,0,none⟩)])])] (B:= [G]) C.inv);refine ae J q J J J (Co func75 q J (a2) ?_);rintro e w ⟨rfl,a0⟩;refine⟨_,rfl,fun a q=>?_⟩;have C:=Step.frame (Lc:= [F,(eO bv 73 #[(.func (.func 99) #[] #[.pointer (some ⟨ba,0,none⟩),.pointer (some ⟨bv,0,none⟩)])])]) (R:= [G]) C a0;refine lin J (am q J J J fun a q=>?_);refine Ls J q fun a q=>?_;refine wpList_nil (aa (wp_ret (ret1 J q J ?_)));have C:=C.fd [3,0] J;rw [gi];have X:=I;have a4:=O;exact⟨by simp [*],C⟩
 ·refine Lf J q J J fun a q=>?_;refine Lf J q J J fun a q=>?_;refine Lf J q J J fun a q=>?_;refine Lf J q J J fun a q=>?_;refine Lf J q J J fun a q=>?_;refine lin J (am q J J J fun a q=>?_);refine Lm J q fun a q=>?_;refine ae J q J J J (ac (f:=3) (o2:=3) T41 T39 J J J J q J J fun a q=>?_);refine ae J q J J J (af (v:=(.slice A t.l.length c)) T39 J q J (C.blkL 0 J) J J fun a q=>?_);refine ae J q J J J (af (v:=(.func (.func 99) #[] #[.pointer (some ⟨ba,0,none⟩),.pointer (some ⟨bv,0,none⟩)])) T73 J q J (C.blkL 2 J) J J fun a q=>?_);have C:=C.fd [3,3] J;have a3:=c_ContainsFuncV (fun j V T=>ih j V T) hr (Inv.head [F,(eO bv 73 #[(.func (.func 99) #[] #[.pointer (some ⟨ba,0,none⟩),.pointer (some ⟨bv,0,none⟩)])])] (B:= [G]) C.inv);refine ae J q J J J (Co func75 q J (a3) ?_);rintro e w ⟨rfl,a1⟩;refine⟨_,rfl,fun a q=>?_⟩;have C:=Step.frame (Lc:= [F,(eO bv 73 #[(.func (.func 99) #[] #[.pointer (some ⟨ba,0,none⟩),.pointer (some ⟨bv,0,none⟩)])])]) (R:= [G]) C a1;refine lin J (am q J J J fun a q=>?_);refine Ls J q fun a q=>?_;refine wpList_nil (aa (wp_ret (ret1 J q J ?_)));have C:=C.fd [3,0] J;rw [gi];have X:=I;exact⟨by simp [*],C⟩
end Go.Vk.Tryz
namespace Go.Vk
theorem ret0r {P: Program} {N: Nat} {m: Env} {a: Act} {w: World} {fn: Func} {R: Ending->World->Prop} (hr: fn.results= #[]) (ha: Has [] a N m) (hR: R (.returned (.tuple #[])) w): bodyPost P fn R .ret a w:=bodyPost_ret (results_none hr _ _ _) ha.dfr hR
end Go.Vk
namespace Go.Vk.As
open Go.RowKit
section
variable {P: Program} {Q: Exit->Act->World->Prop} {D: List Deferred} {N: Nat} {E: Env} {w0: World} {H0: PHeap} {L0 L: List Ent} {s0: S} {als: List Nat} {ini: Nat->List Ent} {sup: Nat->Option Nat}
theorem RlS.some {s s': S} (h: RlS s s') {i: Nat} (hi:(s.ax i).isSome=true):(s'.ax i).isSome=true:=by
 obtain⟨E,hE⟩:=Option.isSome_iff_exists.1 hi;rw [h.ax i E hE];rfl
def okTailF (l: List Oper) (tl j: Nat): Bool:=
 (List.range tl).all fun i=>Nat.beq i j||(List.range (tl+1)).any fun s=>(Nat.blt i s&&!Nat.beq s j)&&(match l[s]? with
  | some o=>o.after.toList.any fun e=>Region.binds .any e&&Nat.beq e.on i
  | none=>false)
def okHeadF (l: List Oper) (tl j: Nat): Bool:=
 okTailF l tl j&&(List.range l.length).all fun s=>!Nat.blt tl s||(match l[s]? with
  | some o=>o.after.toList.any fun e=>Region.binds .any e&&Nat.ble tl e.on&&Nat.blt e.on s
  | none=>false)
def headOff (n tl j: Nat): Array Bool:=((List.range n).map fun i=>Nat.blt i tl&&!Nat.beq i j).toArray
theorem headOff_eq {n tl j: Nat} {listed: Array Bool} (hsz: listed.size=n) (h1: ∀ i,i < tl->i≠j->lof listed i=true) (h0: lof listed j=false) (h2: ∀ i,tl<=i->lof listed i=false): listed=headOff n tl j:=by
 apply Array.ext
 ·simp [headOff,hsz]
 ·intro i hi hi';have e1: lof listed i=listed[i]:=by unfold lof;simp [Array.getD,hi]
  have e2:(headOff n tl j)[i]=(Nat.blt i tl&&!Nat.beq i j):=by simp [headOff]
  rw [<- e1,e2]
  by_cases h: i < tl
  ·by_cases e: i=j
   ·subst e;rw [h0,Nat.beq_refl];simp
   ·have hb: Nat.beq i j=false:=by
     cases hb: Nat.beq i j with
     | false=>rfl
     | true=>exact absurd (Nat.eq_of_beq_eq_true hb) e
    have ht: Nat.blt i tl=true:=by simpa [Nat.blt_eq] using h
    rw [h1 i h e,hb,ht];rfl
  ·have ht: Nat.blt i tl=false:=by
    cases hb: Nat.blt i tl with
    | false=>rfl
    | true=>exact absurd (by simpa [Nat.blt_eq] using hb) h
   rw [h2 i j0,ht];rfl
theorem draw_headF {l: List Oper} {Φ: List FactS} (tl fj: Nat) (hfj: fj < tl) (hok: Okd tl l N E) (hm: Monos Φ) (htl: tl < l.length) (hh: okHeadF l tl fj=true)
  (hq: ∀(i: Nat) (o: Oper),i < tl->l[i]? =some o->∃ φ,Φ[i]? =some φ/\Quiet ini sup als P l Φ D N E w0 H0 L0 s0 L Q i o φ)
  (hfin: ∀ f a w,DInv ini sup als l Φ D N E w0 H0 L0 s0 L (fun j=>decide (j < tl)) a w->wpAny P .any l.toArray Q (f+(l.length - tl)) (headDone l.length tl) a w)
  (hfo: ∀ f a w,DInv ini sup als l Φ D N E w0 H0 L0 s0 L (fun j=>decide (j < tl/\j≠fj)) a w->wpAny P .any l.toArray Q (f+(l.length - tl+1)) (headOff l.length tl fj) a w) :
  ∀(fuel: Nat) (listed: Array Bool) (a: Act) (w: World),listed.size=l.length->unl l.length (lof listed)<=fuel->(∀ s o,lof listed s=true->l[s]? =some o->∀ e ∈ o.after,Region.binds .any e=true->lof listed e.on=true)->(∀ s,tl<=s->lof listed s=false)->
   DInv ini sup als l Φ D N E w0 H0 L0 s0 L (lof listed) a w->wpAny P .any l.toArray Q fuel listed a w:=by
 have hh1: okTailF l tl fj=true:=by
  unfold okHeadF at hh;rw [Bool.and_eq_true] at hh;exact hh.1
 have hh2: ∀ s o,tl < s->l[s]? =some o->∃ e ∈ o.after,Region.binds .any e=true/\tl<=e.on/\e.on < s:=by
  intro s o hs ho;unfold okHeadF at hh;rw [Bool.and_eq_true] at hh;have h:=List.all_eq_true.1 hh.2 s (List.mem_range.2 (List.getElem?_eq_some_iff.1 ho).1);rw [ho,show Nat.blt tl s=true from by simpa [Nat.blt_eq] using hs] at h;simp only [Bool.not_true,Bool.false_or] at h;obtain⟨e,he,h⟩:=List.any_eq_true.1 h;simp only [Bool.and_eq_true] at h;exact⟨e,Array.mem_toList_iff.1 he,h.1.1,Nat.le_of_ble_eq_true h.1.2,by simpa [Nat.blt_eq] using h.2⟩
 have hless: ∀(b: Nat->Bool) i,i < l.length->b i=false->unl l.length (upTo b i) < unl l.length b:=by
  intro b i hi hb;refine cz (x:=i) (fun y hy=>?_) (List.mem_range.2 hi) (by simp [hb]) (by simp [upTo]);simp only [Bool.not_eq_true'] at hy ⊢
  cases hby: b y with
  | false=>rfl
  | true =>
   have:=(aR b i y).2 (.inr hby);rw [this] at hy
   cases hy
 have hfull0: ∀(b: Nat->Bool),(∀ i,i < tl->b i=true)->(∀ s,tl<=s->b s=false)->l.length - tl<=unl l.length b:=by
  intro b h1 h2;unfold unl;have hs:(List.range l.length).countP (fun i=>!b i)=(List.range l.length).countP (fun i=>decide (tl<=i)):=by
   refine List.countP_congr fun i _=>?_
   by_cases h: i < tl
   ·rw [h1 i h];simp;omega
   ·rw [h2 i j0];simp;omega
  rw [hs];have key: ∀ m,m - tl<=(List.range m).countP (fun i=>decide (tl<=i)):=by
   intro m
   induction m with
   | zero=>simp
   | succ m ih =>
    rw [List.range_succ,List.countP_append,List.countP_singleton]
    by_cases h: tl<=m
    ·simp [h];omega
    ·simp [h];omega
  exact key l.length
 have hfull: ∀(listed: Array Bool),listed.size=l.length->(∀ i,i < tl->lof listed i=true)->(∀ s,tl<=s->lof listed s=false)->l.length - tl<=unl l.length (lof listed):=fun listed _=>hfull0 (lof listed);have hfullO: ∀(listed: Array Bool),listed.size=l.length->(∀ i,i < tl->i≠fj->lof listed i=true)->lof listed fj=false->(∀ s,tl<=s->lof listed s=false)->l.length - tl+1<=unl l.length (lof listed):=by
  intro listed hsz h1 h0 h2;have h3:=hless (lof listed) fj j0 h0;have h4:=hfull0 (upTo (lof listed) fj) (fun i hi=>(aR _ _ _).2 (by
   by_cases e: i=fj
   ·exact .inl e
   ·exact .inr (h1 i hi e))) (fun s hs=>by
   cases hb: upTo (lof listed) fj s with
   | false=>rfl
   | true =>
    rcases (aR _ _ _).1 hb with h5 | h5
    ·omega
    ·rw [h2 s hs] at h5;cases h5)
  omega
 intro fuel
 induction fuel with
 | zero =>
  intro listed a w hsz hun hc ht hI
  exfalso
  have:=hless (lof listed) tl htl (ht tl (Nat.le_refl _));omega
 | succ fuel ih =>
  intro listed a w hsz hun hc ht hI
  by_cases hdone: ∀ i,i < tl->i≠fj->lof listed i=true
  ·by_cases hoff: lof listed fj=true
   ·have hdone: ∀ i,i < tl->lof listed i=true:=fun i hi=>by
     by_cases e: i=fj
     ·rw [e];exact hoff
     ·exact hdone i hi e
    have heq: listed=headDone l.length tl:=dv hsz (Nat.le_of_lt htl) hdone ht;have hle:=hfull listed hsz hdone ht;have hb: lof listed=fun j=>decide (j < tl):=by
     funext j
     by_cases h: j < tl
     ·rw [hdone j h];simp [h]
     ·rw [ht j j0];simp [h]
    rw [hb] at hI;have:=hfin (fuel+1 - (l.length - tl)) a w hI;rw [show fuel+1 - (l.length - tl)+(l.length - tl)=fuel+1 by omega] at this;rw [heq];exact this
   ·have hoff: lof listed fj=false:=by simpa using hoff
    have heq: listed=headOff l.length tl fj:=headOff_eq hsz hdone hoff ht;have hle:=hfullO listed hsz hdone hoff ht;have hb: lof listed=fun j=>decide (j < tl/\j≠fj):=by
     funext j
     by_cases h: j < tl
     ·by_cases e: j=fj
      ·subst e;rw [hoff];simp
      ·rw [hdone j h e];simp [h,e]
     ·rw [ht j j0];simp [h]
    rw [hb] at hI;have:=hfo (fuel+1 - (l.length - tl+1)) a w hI;rw [show fuel+1 - (l.length - tl+1)+(l.length - tl+1)=fuel+1 by omega] at this;rw [heq];exact this
  ·have hall2: ∀(o: Oper),l[tl]? =some o->(∀ e ∈ o.after,Region.binds .any e=true->lof listed e.on=true)->∀ k,k<=tl->∀ j,j < tl->j≠fj->tl - j<=k->lof listed j=true:=by
    intro o ho hdeps k
    induction k with
    | zero=>intro _ j hj hjf hk;omega
    | succ k ihk =>
     intro hk' j hj hjf hk;have h1:=List.all_eq_true.1 hh1 j (List.mem_range.2 hj);rw [show Nat.beq j fj=false from by
      cases hb: Nat.beq j fj with
      | false=>rfl
      | true=>exact absurd (Nat.eq_of_beq_eq_true hb) hjf,Bool.false_or] at h1
     obtain⟨s,hs,h2⟩:=List.any_eq_true.1 h1;rw [List.mem_range] at hs;simp only [Bool.and_eq_true] at h2;have hjs: j < s:=Nat.le_of_ble_eq_true h2.1.1;have hsf: s≠fj:=fun e=>by
      have h4:=h2.1.2;rw [e,Nat.beq_refl] at h4;cases h4
     have h3:=h2.2
     cases hls: l[s]? with
     | none=>rw [hls] at h3;cases h3
     | some os =>
      rw [hls] at h3;obtain⟨e,he,hej⟩:=List.any_eq_true.1 h3;have he:=Array.mem_toList_iff.1 he;simp only [Bool.and_eq_true] at hej;have hej':=Nat.eq_of_beq_eq_true hej.2;rw [<- hej']
      by_cases hsi: s=tl
      ·subst hsi;rw [ho] at hls;obtain rfl:=Option.some.inj hls;exact hdeps e he hej.1
      ·exact hc s os (ihk j0 s j0 hsf j0) hls e he hej.1
   refine⟨fun hr=>?_,fun i hi=>?_⟩
   ·exfalso
    refine hdone fun i hit _=>hok.acy (lof listed) (fun i o ho hdeps=>?_) i j0
    cases hb: lof listed i with
    | true=>rfl
    | false =>
     have: i ∈ Region.ready .any l.toArray listed:=(bP hsz).2 ⟨o,ho,hb,hdeps⟩;rw [hr] at this
     cases this
   ·obtain⟨o,ho,hbi,hdeps⟩:=(bP hsz).1 hi;have hil: i < l.length:=(List.getElem?_eq_some_iff.1 ho).1;have hit: i < tl:=by
     rcases Nat.lt_trichotomy i tl with h | h | h
     ·exact h
     ·subst h;exact absurd (fun j hj hjf=>hall2 o ho hdeps i (Nat.le_refl _) j hj hjf j0) hdone
     ·obtain⟨e,he,hb,h1,h2⟩:=hh2 i o h ho;have:=hdeps e he hb;rw [ht e.on h1] at this
      cases this
    obtain⟨φ,hφ,hqi⟩:=hq i o hit ho;refine ce hok hm ho hφ hqi hI hbi (fun j hj=>Classical.byContradiction fun hn=>by rw [ht j j0] at hj;cases hj) hit hdeps hc fun a' w' hI'=>?_;refine ih _ a' w' (by simpa using hsz) ?_ ?_ ?_ ?_
    ·rw [aX hsz hil];have:=hless (lof listed) i hil hbi;omega
    ·rw [aX hsz hil];intro s o' hs ho' e he hb
     rcases (aR _ _ _).1 hs with rfl | hs
     ·rw [ho] at ho';obtain rfl:=Option.some.inj ho';exact(aR _ _ _).2 (.inr (hdeps e he hb))
     ·exact(aR _ _ _).2 (.inr (hc s o' hs ho' e he hb))
    ·intro s hs;rw [aX hsz hil]
     cases hb: upTo (lof listed) i s with
     | false=>rfl
     | true =>
      rcases (aR _ _ _).1 hb with h1 | h1
      ·omega
      ·rw [ht s hs] at h1;cases h1
    ·rw [aX hsz hil];exact hI'
theorem any_headF {l: List Oper} {a: Act} {w: World} (tl fj: Nat) (Φ: List FactS) (hok: okDraw tl l N E=true) (htl: Nat.blt tl l.length=true) (hft: Nat.blt fj tl=true) (hh: okHeadF l tl fj=true) (hm: Monos Φ) (h0x: ∀ i,s0.ax i=none) (hS: Step w0 H0 L0 w s0.H (aents ini sup als s0.ax++L)) (ha: Has D a N E) (hq: QuietsI (Quiet ini sup als P l Φ D N E w0 H0 L0 s0 L Q) 0 (l.take tl) Φ)
  (k: ∀ f a w s',RlS s0 s'->Step w0 H0 L0 w s'.H (aents ini sup als s'.ax++L)->Has D a N E->(∀(i: Nat) (o: Oper) (φ: FactS),(l.take tl)[i]? =some o->Φ[i]? =some φ->∃ v,(∀ d,o.dst=some d->a.tmps[d]? =some v)/\φ s' v)->wpAny P .any l.toArray Q (f+(l.length - tl)) (headDone l.length tl) a w)
  (ko: ∀ f a w s',RlS s0 s'->Step w0 H0 L0 w s'.H (aents ini sup als s'.ax++L)->Has D a N E->(∀(i: Nat) (o: Oper) (φ: FactS),Nat.beq i fj=false->(l.take tl)[i]? =some o->Φ[i]? =some φ->∃ v,(∀ d,o.dst=some d->a.tmps[d]? =some v)/\φ s' v)->wpAny P .any l.toArray Q (f+(l.length - tl+1)) (headOff l.length tl fj) a w) :
  wpAny P .any l.toArray Q l.toArray.size (Array.replicate l.toArray.size false) a { w with drawn:=w.drawn+1 }:=by
 have htl': tl < l.length:=by simpa [Nat.blt_eq] using htl
 have h0: lof (Array.replicate l.toArray.size false)=fun _=>false:=by
  funext i
  unfold lof;simp only [Array.getD_eq_getD_getElem?,Array.getElem?_replicate]
  split <;> rfl
 refine draw_headF (ini:=ini) (sup:=sup) (als:=als) (s0:=s0) (L:=L) (Φ:=Φ) tl fj (by simpa [Nat.blt_eq] using hft) (ci hok) hm htl' hh (fun i o hi ho=>by have:=hq.get i o (by rw [List.getElem?_take,if_pos hi];exact ho);simpa only [Nat.zero_add] using this) ?_ ?_ _ _ a _ j3 (by rw [h0];exact eU _ _) ?_ ?_ ?_
 ·intro f a w hI;obtain⟨ha,H',hle,hS,hfr,hf⟩:=hI;refine k f a w H' hle hS ha fun i o φ ho hφ=>?_;rw [List.getElem?_take] at ho
  split at ho
  ·rename_i hi
   exact hf i o φ (by simpa using hi) ho hφ
  ·cases ho
 ·intro f a w hI;obtain⟨ha,H',hle,hS,hfr,hf⟩:=hI;refine ko f a w H' hle hS ha fun i o φ hij ho hφ=>?_;rw [List.getElem?_take] at ho
  split at ho
  ·rename_i hi
   exact hf i o φ (decide_eq_true ⟨hi,fun e=>by rw [e,Nat.beq_refl] at hij;cases hij⟩) ho hφ
  ·cases ho
 ·rw [h0];intro s o h
  cases h
 ·intro s _;rw [h0]
 ·rw [h0];exact⟨ha,s0,RlS.refl _,cl hS,fun i _=>h0x i,fun i o φ h=>by cases h⟩
theorem c_draw_headF {l: List Oper} {id: Nat} {a: Act} {w: World} (tl fj: Nat) (Φ: List FactS) (hP: P.follows .mixedOrders=true) (hok: okDraw tl l N E=true) (htl: Nat.blt tl l.length=true) (hft: Nat.blt fj tl=true) (hh: okHeadF l tl fj=true) (hm: Monos Φ) (h0x: ∀ i,s0.ax i=none) (hS: Step w0 H0 L0 w s0.H (aents ini sup als s0.ax++L)) (ha: Has D a N E) (hq: QuietsI (Quiet ini sup als P l Φ D N E w0 H0 L0 s0 L Q) 0 (l.take tl) Φ)
  (k: ∀ f a w s',RlS s0 s'->Step w0 H0 L0 w s'.H (aents ini sup als s'.ax++L)->Has D a N E->(∀(i: Nat) (o: Oper) (φ: FactS),(l.take tl)[i]? =some o->Φ[i]? =some φ->∃ v,(∀ d,o.dst=some d->a.tmps[d]? =some v)/\φ s' v)->wpAny P .any l.toArray Q (f+(l.length - tl)) (headDone l.length tl) a w)
  (ko: ∀ f a w s',RlS s0 s'->Step w0 H0 L0 w s'.H (aents ini sup als s'.ax++L)->Has D a N E->(∀(i: Nat) (o: Oper) (φ: FactS),Nat.beq i fj=false->(l.take tl)[i]? =some o->Φ[i]? =some φ->∃ v,(∀ d,o.dst=some d->a.tmps[d]? =some v)/\φ s' v)->wpAny P .any l.toArray Q (f+(l.length - tl+1)) (headOff l.length tl fj) a w) :
  (Code.region id l.toArray true).wp P Q a w:=wp_region_any hP (any_headF tl fj Φ hok htl hft hh hm h0x hS ha hq k ko)
end
end Go.Vk.As
namespace Go.Vk.Tryz
open Go.RowKit
theorem bS {w0: World} {H: PHeap} {q p: Nat} {ws bs: List Wd} {h: HS} {L: List Ent} (hI: Inv w0 H L) (hM: HM q p ws bs h L) (hlw: ws.length<=100000) (hlb: bs.length<=100000) {k: Int} {y: Wd} {ws1: List Wd} (he: takeP ws k=(y,ws1)): Calls prog 14 #[.pointer (some ⟨q,0,none⟩),.int .i64 k] w0 (fun e w'=> ∃ L',e=.returned (wv y)/\HM q p ws1 bs h L'/\Step w0 H L w' H L'):=by
 obtain⟨F,C,rfl,G,J⟩:=hM;refine Calls.mono (c_ptake (Inv.head F (B:=C) hI) G hlw hlb) ?_;rintro e w ⟨L',rfl,I,O⟩;rw [he] at *;exact⟨L'++C,rfl,⟨L',C,rfl,I,J⟩,Step.frame (Lc:=F) (R:=C) (Step.refl hI) O⟩
theorem c_mshared {w0: World} {H: PHeap} {q p: Nat} {ws bs: List Wd} {h: HS} {L: List Ent} (hI: Inv w0 H L) (hM: HM q p ws bs h L) (hlw: ws.length<=100000) (hlb: bs.length<=100000) {k: Int} {y: Wd} {ws1: List Wd} (he: shareP ws k=(y,ws1)): Calls prog 45 #[.pointer (some ⟨q,0,none⟩),.int .i64 k] w0 (fun e w'=> ∃ L',e=.returned (wv y)/\HM q p ws1 bs h L'/\Step w0 H L w' H L'):=by
 obtain⟨F,C,rfl,G,J⟩:=hM;refine Calls.mono (c_pshared (Inv.head F (B:=C) hI) G hlw hlb) ?_;rintro e w ⟨L',rfl,I,O⟩;rw [he] at *;exact⟨L'++C,rfl,⟨L',C,rfl,I,J⟩,Step.frame (Lc:=F) (R:=C) (Step.refl hI) O⟩
theorem f6 {w0: World} {H: PHeap} {q p: Nat} {ws bs: List Wd} {h: HS} {L: List Ent} (hI: Inv w0 H L) (hM: HM q p ws bs h L) (hlw: ws.length<=100000) (hlb: bs.length<=100000) {x: Wd} {e0: Int}: Calls prog 44 #[.pointer (some ⟨q,0,none⟩),wv x,.int .i64 e0] w0 (fun e w'=> ∃ H' L',e=.returned (.tuple #[])/\HM q p (holdP ws x e0) bs h L'/\Step w0 H L w' H' L'):=by
 obtain⟨F,C,rfl,G,J⟩:=hM;refine Calls.mono (c_phold (Inv.head F (B:=C) hI) G hlw hlb) ?_;rintro e w ⟨H',L',rfl,I,O⟩;exact⟨H',L'++C,rfl,⟨L',C,rfl,I,J⟩,Step.frame (Lc:=F) (R:=C) (Step.refl hI) O⟩
theorem c_mfun {w0: World} {H: PHeap} {q p: Nat} {ws bs: List Wd} {h: HS} {L: List Ent} (hI: Inv w0 H L) (hM: HM q p ws bs h L) (hO: h.Ok) {A: Option Addr} {c: Nat} {xs: List Wd} (hr: RdG 4 Wd.cells w0 L A c xs) {s: ByteArray} {h': HS} {u: Wd} {e0: Int} (he: h.fun_ s xs=(h',(u,e0))): Calls prog 23 #[.pointer (some ⟨p,0,none⟩),.string s,.slice A xs.length c] w0 (fun e w'=> ∃ L',e=.returned (.tuple #[wv u,.int .i64 e0])/\HM q p ws bs h' L'/\Step w0 H L w' H L'):=by
 obtain⟨C,O,rfl,F,G⟩:=hM;refine Calls.mono (gy (Step.tail C (Step.refl hI)) G hO (hr.fewer (bx C))) ?_;rintro e w ⟨L',rfl,I,J⟩;rw [he] at *;exact⟨C++L',rfl,⟨C,L',rfl,F,I⟩,Step.frameR C (Step.refl hI) J⟩
theorem c_mvec {w0: World} {H: PHeap} {q p: Nat} {ws bs: List Wd} {h: HS} {L: List Ent} (hI: Inv w0 H L) (hM: HM q p ws bs h L) (hO: h.Ok) {A: Option Addr} {c: Nat} {xs: List Wd} (hr: RdG 4 Wd.cells w0 L A c xs) {h': HS} {u: Wd} {e0: Int} (he: h.vec xs=(h',(u,e0))): Calls prog 25 #[.pointer (some ⟨p,0,none⟩),.slice A xs.length c] w0 (fun e w'=> ∃ L',e=.returned (.tuple #[wv u,.int .i64 e0])/\HM q p ws bs h' L'/\Step w0 H L w' H L'):=by
 obtain⟨C,O,rfl,F,G⟩:=hM;refine Calls.mono (c_hVec (Step.tail C (Step.refl hI)) G hO (hr.fewer (bx C))) ?_;rintro e w ⟨L',rfl,I,J⟩;rw [he] at *;exact⟨C++L',rfl,⟨C,L',rfl,F,I⟩,Step.frameR C (Step.refl hI) J⟩
end Go.Vk.Tryz
