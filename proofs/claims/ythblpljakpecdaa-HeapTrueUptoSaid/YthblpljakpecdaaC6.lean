/- Part 6 of the proof of heapTrue_holds. Conditions: none. -/
import Derived.Test.YthblpljakpecdaaC5
set_option linter.unusedVariables false
set_option linter.unusedSimpArgs false
set_option linter.unusedSectionVars false
set_option maxRecDepth 100000
open Go.Proofs.Try
namespace Go.Vk.Try
open Go.RowKit
theorem c_mall {w0: World} {H: PHeap} {q p: Nat} {ws bs: List Wd} {h: HS} {L: List Ent} (hI: Inv w0 H L) (hM: HM q p ws bs h L) (hlw: ws.length≤100000) (hlb: bs.length≤100000): Calls prog 34 #[(pB q)] w0 (fun e w'=> ∃ H' A c,e=.returned (.slice A (ws++bs).length c)∧RowG 4 Wd.cells H' A c (ws++bs)∧Step w0 H L w' H' L):=by
 obtain⟨_,Lh,rfl,⟨Aw,cw,Ab,cb,ew,eb,rfl,hRw,hRb⟩,hK⟩:=hM;have hS:=Step.refl hI;have hcw_:=Row.cap hRw;have hcb_:=Row.cap hRb;refine enter [(pB q)] func34 rfl ntmps34 rfl fun a ha=>?_;refine wp_seq (ab (Ls rfl ha fun a ha=>?_));refine wpList_nil (aa (wp_seq ?_));have hS_:=hS;refine As.c_draw_head (ini:=(As.il [])) (sup:=(As.sl [])) (als:= []) (s0:=⟨H,fun _=>none⟩) (L:=((eO q 70 (hA p Aw ws.length cw Ab bs.length cb))::ew::eb::Lh)) (N:=13) (E:= [(0,(pB q))]) 9 [FcV (pB q),FcV (pB q),FcV (.pointer (some ⟨q,1,none⟩)),FcV (.slice Aw ws.length cw),FcV (pB q),FcV (pB q),FcV (.pointer (some ⟨q,2,none⟩)),FcV (.slice Ab bs.length cb),fun q_ v=>(fun H v=> ∃ b,v=.slice (some ⟨b,0,none⟩) 2 2∧H b=some (.cells #[(.slice Aw ws.length cw),(.slice Ab bs.length cb)] 29 (0,0))) q_.H v] mixed rfl rfl rfl (As.M1 (As.M1 (As.M1 (As.M1 (As.M1 (As.M1 (As.M1 (As.M1 (As.Monos.cons (fun _ _ v hl hq_=>(fun _ _ _ hl ⟨b,h,hb⟩=>⟨b,h,hl _ _ hb⟩: ∀(H H': PHeap) (v: Value),Le H H'→(fun H v=> ∃ b,v=.slice (some ⟨b,0,none⟩) 2 2∧H b=some (.cells #[(.slice Aw ws.length cw),(.slice Ab bs.length cb)] 29 (0,0))) H v→(fun H v=> ∃ b,v=.slice (some ⟨b,0,none⟩) 2 2∧H b=some (.cells #[(.slice Aw ws.length cw),(.slice Ab bs.length cb)] 29 (0,0))) H' v) _ _ _ hl.le hq_) (As.Monos.nil)))))))))) (fun _=>rfl) hS (ha.pk rfl) (As.QuietsI.c4 ?_ ?_ ?_ ?_ (As.QuietsI.c4 ?_ ?_ ?_ ?_ (As.QuietsI.cons ?_ (As.QuietsI.nil)))) (fun f_ a w s_ hls hS ha hdr_=>?_)
 ·refine As.Qx rfl fun a w H_ ax_ hle hax_ hS ha hd hls=>?_;have hSf:=hS;exact ak ha rfl rfl fun a ha=>As.ql ha hSf
 ·refine As.Qx1 0 rfl fun a w H_ ax_ hle hax_ hS ha hd hls=>?_;have hSf:=hS;exact aw ha rfl rfl fun a ha=>As.ql ha hSf
 ·refine As.Qx1 1 rfl fun a w H_ ax_ hle hax_ hS ha hd hls=>?_;have hSf:=hS;exact ac (f:=1) (o2:=1) T70 T29 rfl rfl rfl rfl ha rfl rfl fun a ha=>As.ql ha hSf
 ·refine As.Qx1 2 rfl fun a w H_ ax_ hle hax_ hS ha hd hls=>?_;have hSf:=hS;have hS:=Step.dropN _ _ hS;exact af (v:=(.slice Aw ws.length cw)) T29 rfl ha rfl (hS.blkL 0 rfl) rfl rfl fun a ha=>As.ql ha hSf
 ·refine As.Qx rfl fun a w H_ ax_ hle hax_ hS ha hd hls=>?_;have hSf:=hS;exact ak ha rfl rfl fun a ha=>As.ql ha hSf
 ·refine As.Qx1 4 rfl fun a w H_ ax_ hle hax_ hS ha hd hls=>?_;have hSf:=hS;exact aw ha rfl rfl fun a ha=>As.ql ha hSf
 ·refine As.Qx1 5 rfl fun a w H_ ax_ hle hax_ hS ha hd hls=>?_;have hSf:=hS;exact ac (f:=2) (o2:=2) T70 T29 rfl rfl rfl rfl ha rfl rfl fun a ha=>As.ql ha hSf
 ·refine As.Qx1 6 rfl fun a w H_ ax_ hle hax_ hS ha hd hls=>?_;have hSf:=hS;have hS:=Step.dropN _ _ hS;exact af (v:=(.slice Ab bs.length cb)) T29 rfl ha rfl (hS.blkL 0 rfl) rfl rfl fun a ha=>As.ql ha hSf
 ·refine As.Qx1 3 rfl fun a w H_ ax_ hle hax_ hS ha hd hls=>?_;obtain⟨_,ha,rfl⟩:=hd.g ha 7 rfl;have hSf:=hS;have hSr:=Step.dropN _ _ hS;refine id (aY (vs:= [(0,(.slice Aw ws.length cw)),(1,(.slice Ab bs.length cb))]) (cells:= [(.slice Aw ws.length cw),(.slice Ab bs.length cb)]) T166.und T29 hS ha (ha.evp rfl) rfl rfl rfl rfl fun b1 a w hS ha=>?_);obtain⟨H1,hS,hle1,hb1⟩:=hS.give;exact As.qdone (s:=⟨H_,ax_⟩) hle1 ha hS ⟨_,rfl,hb1⟩
 obtain⟨H2,ax_⟩:=s_;have hle2: Le H H2:=hls.le;dsimp only at hdr_ hS;obtain⟨_,ha,b1,rfl,hb1⟩:=As.Dd ha hdr_ 8 rfl;have hk4:=c_ConcatW hS.inv.nil hb1 (RdG.of_mem Wd.len (by decide) hS.inv (List.mem_of_getElem? (i:=1) rfl) hRw (by omega)) (RdG.of_mem Wd.len (by decide) hS.inv (List.mem_of_getElem? (i:=2) rfl) hRb (by omega));refine any1 (i:=9) (by kernel_rfl) rfl rfl (Co func83 ha rfl (hk4) ?_);rintro e w ⟨A3,c3,en3,rfl,hR3,hc⟩;refine⟨_,rfl,fun a ha=>?_⟩;have hS:=hS.call_own hc;refine any1 (i:=10) (by kernel_rfl) rfl rfl (aH ha rfl rfl fun a ha=>?_);refine any0 (by kernel_rfl) ?_;refine aa (wp_ret (ret1 rfl ha rfl ?_));obtain⟨HX,hS,hle,hG⟩:=rowW_release hR3 hS (by rw [List.length_append];omega);exact⟨_,_,_,rfl,hG,hS⟩
theorem c_begun {w0: World} {H: PHeap} (hI: Inv w0 H []) {n: Int} (hn: 16≤n∧n≤65536): Calls prog 31 #[(iV n)] w0 (fun e w'=> ∃ q p L',e=.returned (pB q)∧HM q p [] [] (HS.new (Int.toNat n)) L'∧Step w0 H [] w' H L'):=by
 have hS:=Step.refl hI;refine enter [(iV n)] func31 rfl ntmps31 rfl fun a ha=>?_;refine wp_seq (ab (Ls rfl ha fun a ha=>?_));refine wpList_nil (aa (wp_seq (ab (Lm rfl ha fun a ha=>?_))));have hk2:=c_hNew (n:=n) hS.inv.nil;refine lin rfl (Co func10 ha rfl (hk2) ?_);rintro e w hN_;obtain⟨p1,L1,rfl,hK1,hc1⟩:=newR_ok hN_ (by omega);refine⟨_,rfl,fun a ha=>?_⟩;have hS:=(Step.frame (Lc:= []) (R:= []) hS hc1).perm List.perm_append_comm;refine Lm rfl ha fun a ha=>?_;refine lin rfl (ad (v:=(pB p1)) ha rfl rfl rfl fun a ha=>?_);refine lin rfl (ad (v:=(iV 0)) ha rfl rfl rfl fun a ha=>?_);refine Ls rfl ha fun a ha=>?_;refine Ls rfl ha fun a ha=>?_;refine wpList_nil (aa (wp_seq (wp_seq (ab (Lm rfl ha fun a ha=>?_)))));refine lin rfl (bG (i:=0) (j:=0) ha rfl rfl rfl fun a ha=>?_);refine Lm rfl ha fun a ha=>?_;refine ae rfl ha rfl rfl rfl (ak ha rfl rfl fun a ha=>?_);refine ae rfl ha rfl rfl rfl (aW T24.und T88 ha rfl rfl rfl fun a ha=>?_);refine lin rfl (am ha rfl rfl rfl fun a ha=>?_);refine wpList_nil (aa (ai ha rfl (wp_skip (aa (wp_seq (ab (Lm rfl ha fun a ha=>?_)))))));refine lin rfl (aG (vs:= [(0,(pB p1)),(3,(.bool true))]) (cells:= [(pB p1),(.slice none 0 0),(.slice none 0 0),(.bool true)]) T70 PL70 ha (ha.evp rfl) rfl rfl fun a ha=>?_);refine lin rfl (aU (cs:=(hA p1 none 0 0 none 0 0)) hS ha rfl rfl rfl fun b3 a w hS ha=>?_);refine Ls rfl ha fun a ha=>?_;refine wpList_nil (aa (wp_ret (ret1 rfl ha rfl ?_)));have hS:=hS.cons_none (en:=noEnt) rfl;have hS:=hS.cons_none (en:=noEnt) rfl;have hS:=Step.perm hS (List.Perm.trans (List.Perm.cons _ (List.Perm.swap _ _ _)) (List.Perm.swap _ _ _));exact⟨_,_,_,rfl,⟨[_,noEnt,noEnt],L1,rfl,⟨none,0,none,0,noEnt,noEnt,rfl,Row.nil _ _,Row.nil _ _⟩,hK1⟩,hS⟩
theorem c_mAudit {w0: World} {H: PHeap} {q p: Nat} {ws bs: List Wd} {h: HS} {L: List Ent} (hI: Inv w0 H L) (hM: HM q p ws bs h L) (hO: h.Ok) {A: Option Addr} {c: Nat} {xs: List Wd} (hr: RowG 4 Wd.cells H A c xs): Calls prog 33 #[.pointer (some ⟨p,0,none⟩),.slice A xs.length c] w0 (fun e w'=> ∃ H',e=.returned (iV (auditS h.S xs))∧Step w0 H L w' H' L):=by
 obtain⟨Lt,Lh,rfl,hD,hK⟩:=hM;refine Calls.mono (dO (Step.tail Lt (Step.refl hI)) hK hO hr) ?_;rintro e w ⟨H',rfl,hc⟩;exact⟨H',rfl,Step.frameR Lt (Step.refl hI) hc⟩
theorem c_HeapTrue {w0: World} {H: PHeap} (hI: Inv w0 H []) {n: Int} {A: Option Addr} {c: Nat} {xs: List StV} (hr: RowG 4 StV.cells H A c xs): Calls prog 6 #[(iV n),(.slice A xs.length c)] w0 (fun e w'=> ∃ H',e=.returned (.bool true)∧Step w0 H [] w' H' []):=by
 have hS:=Step.refl hI;have hlr:=hr.2.1;refine enter [(iV n),(.slice A xs.length c)] func6 rfl ntmps6 rfl fun a ha=>?_;refine wp_seq (ab (Ls rfl ha fun a ha=>?_));refine wpList_nil (aa (wp_seq (wp_seq (ab ?_))));have hk2:=c_sane hS.inv.nil;refine lin rfl (Co func9 ha rfl (hk2) ?_);rintro e w ⟨H1,rfl,hc1⟩;refine⟨_,rfl,fun a ha=>?_⟩;have hS:=hS.call hc1;have hr:=hr.mono hc1.le;refine lin rfl (aT ha rfl rfl fun a ha=>?_);refine wpList_nil (aa (ai ha rfl (wp_skip (aa (wp_seq (wp_seq (ab (Lm rfl ha fun a ha=>?_))))))));refine lin rfl (aK T63.und ha rfl rfl fun a ha=>?_);refine lin rfl (cK (i:=((xs.length: Nat): Int)) (j:=60) ha rfl rfl rfl fun a ha=>?_);refine Lm rfl ha fun a ha=>?_;refine an (t:=13) ha rfl (fun h3 ha=>?_) (fun h3 ha=>?_)
 ·refine Lf rfl ha rfl rfl fun a ha=>?_;refine Lf rfl ha rfl rfl fun a ha=>?_;refine lin rfl (aq ha rfl rfl rfl fun a ha=>?_);refine Lm rfl ha fun a ha=>?_;refine Lf rfl ha rfl rfl fun a ha=>?_;refine Lf rfl ha rfl rfl fun a ha=>?_;refine lin rfl (aq ha rfl rfl rfl fun a ha=>?_);refine wpList_nil (aa (ao ha rfl (wp_seq (ab (Ls rfl ha fun a ha=>?_)))));refine wpList_nil (aa (wp_ret (ah (ret1 rfl ha rfl ?_))));exact⟨_,rfl,hS.drop_all⟩
 ·refine ae rfl ha rfl rfl rfl (ak ha rfl rfl fun a ha=>?_);refine ae rfl ha rfl rfl rfl (cK (i:=n) (j:=2000) ha rfl rfl rfl fun a ha=>?_);refine lin rfl (am ha rfl rfl rfl fun a ha=>?_);refine Lm rfl ha fun a ha=>?_;refine an (t:=17) ha rfl (fun h4 ha=>?_) (fun h4 ha=>?_)
  ·refine Lf rfl ha rfl rfl fun a ha=>?_;refine Lf rfl ha rfl rfl fun a ha=>?_;refine lin rfl (aq ha rfl rfl rfl fun a ha=>?_);refine wpList_nil (aa (ao ha rfl (wp_seq (ab (Ls rfl ha fun a ha=>?_)))));refine wpList_nil (aa (wp_ret (ah (ret1 rfl ha rfl ?_))));exact⟨_,rfl,hS.drop_all⟩
  ·refine ae rfl ha rfl rfl rfl (ak ha rfl rfl fun a ha=>?_);refine ae rfl ha rfl rfl rfl (bm (i:=n) (j:=16) ha rfl rfl rfl fun a ha=>?_);refine lin rfl (am ha rfl rfl rfl fun a ha=>?_);refine wpList_nil (aa (an (t:=20) ha rfl (fun h5 ha=>?_) (fun h5 ha=>?_)))
   ·refine ao ha rfl (wp_seq (ab (Ls rfl ha fun a ha=>?_)));refine wpList_nil (aa (wp_ret (ah (ret1 rfl ha rfl ?_))));exact⟨_,rfl,hS.drop_all⟩
   ·refine ai ha rfl (wp_skip (aa (wp_seq (ab (Lm rfl ha fun a ha=>?_)))));have hk7:=c_begun (n:=n) hS.inv.nil (by omega);refine lin rfl (Co func31 ha rfl (hk7) ?_);rintro e w ⟨q6,p6,L6,rfl,hM6,hc6⟩;refine⟨_,rfl,fun a ha=>?_⟩;have hS:=(Step.frame (Lc:= []) (R:= []) hS hc6).perm List.perm_append_comm;refine Ls rfl ha fun a ha=>?_;refine wpList_nil (aa (wp_seq (wp_seq (ab (Lm rfl ha fun a ha=>?_)))));refine lin rfl (aW T64.und T70 ha rfl rfl rfl fun a ha=>?_);refine wpList_nil (aa (ai ha rfl (wp_skip (aa (wp_seq (wp_seq (ab (Lm rfl ha fun a ha=>?_))))))));refine lin rfl (aK T63.und ha rfl rfl fun a ha=>?_);refine Lm rfl ha fun a ha=>?_;refine wpList_nil (aa (wp_block (bn (fun nn_ a w=> ∃(H8: PHeap),∃(k: Nat),∃(hh: HS),∃(ws: List Wd),∃(bs: List Wd),∃(LL: List Ent),Le H1 H8∧nn_=xs.length - k∧Has [] a 50 [(5,(pB q6)),(25,(.slice A xs.length c)),(26,(iV ((xs.length: Nat): Int))),(27,(iV ((k: Nat): Int)))]∧Step w0 H [] w H8 (LL)∧(HM q6 p6 ws bs hh LL)∧(DI hh ws bs)∧(ws.length≤130 * k)∧(bs.length≤k)∧(k≤xs.length)) _ ⟨H1,0,(HS.new (Int.toNat n)), [], [],L6,Le.refl _,rfl,ha.pk rfl,hS,hM6,(DI.new (by omega)),(by simp),(by simp),(by omega)⟩ ?_)));intro n8 a w hh;obtain⟨H8,k,hh,ws,bs,LL,hle8,hn8,ha,hS,hM,hD,hlw,hlb,hk⟩:=hh;have hr:=hr.mono hle8;refine wp_seq (ab (lin rfl (bm (i:=((k: Nat): Int)) (j:=((xs.length: Nat): Int)) ha rfl rfl rfl fun a ha=>?_)));refine wpList_nil (aa (wp_seq (an (t:=28) ha rfl (fun h9 ha=>?_) (fun h9 ha=>?_))))
    ·refine ao ha rfl (wp_skip (aa (wp_seq (wp_block (wp_seq (ab ?_))))));obtain⟨x10,b10,off10,e10,cs10,fz10,hx10,hA10,hb10,hc10⟩:=hr.get (j:=k) (by first | omega |(simp;omega));refine lin rfl (aD (b:=b10) (o:=off10) (j:=k) T63.und T67 hA10 ha rfl rfl (by omega) (by omega) rfl fun a ha=>?_);refine lin rfl (al (vs:= [(iV x10.kd),(iV x10.a),(iV x10.b),(iV x10.c)]) T67 rfl ha rfl (hS.blkH hb10) rfl hc10 rfl fun a ha=>?_);refine lin rfl (aE (cs:= #[(iV 0),(iV 0),(iV 0),(iV 0)]) T67 hS ha rfl rfl fun b11 a w hS ha=>?_);refine lin rfl (aj (cs':= #[(iV x10.kd),(iV x10.a),(iV x10.b),(iV x10.c)]) T67 hS (i:=0) rfl ha rfl rfl rfl rfl rfl rfl fun a w hS ha=>?_);refine wpList_nil (aa (wp_seq (ab (Lm rfl ha fun a ha=>?_))));refine lin rfl (al (vs:= [(iV x10.kd),(iV x10.a),(iV x10.b),(iV x10.c)]) T67 rfl ha rfl (hS.blkL 0 rfl) rfl (ag rfl) rfl fun a ha=>?_);have hk14:=c_step (hS.tail [(eO b11 67 #[(iV x10.kd),(iV x10.a),(iV x10.b),(iV x10.c)])]) hM (x:=x10) hD (by omega) (by omega);refine lin rfl (Co func32 ha rfl (hk14) ?_);rintro e w ⟨h13,ws13,bs13,H13,L13,hsr13,hlw13,hlb13,hM13,rfl,hc13⟩;refine⟨_,rfl,fun a ha=>?_⟩;have hS:=hS.frameR [(eO b11 67 #[(iV x10.kd),(iV x10.a),(iV x10.b),(iV x10.c)])] hc13;have hD13:=hsr13.di hD;have hau13:=hD13.audit;have hr:=hr.mono hc13.le;refine wpList_nil (aa (wp_seq ?_));have hS_:=hS;refine bT rel_le [FcV (pB q6),FcV (pB q6),FcV (.pointer (some ⟨q6,3,none⟩)),FcV (.bool true),FcV (.bool false),FcV (.bool false),FcV (pB q6),FcV (pB q6),FcV (pB q6),FcV (pB p6),FcV (pB q6),fun H v=> ∃ A c,v=.slice A (ws13++bs13).length c∧RowG 4 Wd.cells H A c (ws13++bs13),FcV (iV 0),FcV (.bool false),FcV (.bool false)] (N:=50) (E:= [(5,(pB q6)),(25,(.slice A xs.length c)),(26,(iV ((xs.length: Nat): Int))),(27,(iV ((k: Nat): Int)))]) mixed (by kernel_rfl) (by repeat' (first | exact Monos.nil | refine Monos.cons ?_ ?_ |(intro _ _ _ hl h;exact h) |(rintro _ _ _ hl ⟨A,c,h,hr⟩;exact⟨A,c,h,hr.mono hl⟩) |(rintro _ _ _ hl ⟨b,h,hb⟩;exact⟨b,h,hl _ _ hb⟩))) hS (ha.pk rfl) (.c4 ?_ ?_ ?_ ?_ (.c4 ?_ ?_ ?_ ?_ (.c4 ?_ ?_ ?_ ?_ (.c2 ?_ ?_ (.cons ?_ (.nil)))))) (fun a w H19 hle19 hS ha hdr_=>?_)
     ·refine Qy rfl fun a w H_ hle hS ha hd=>?_;exact ak ha rfl rfl fun a ha=>ql ha hS
     ·refine Qy1 0 rfl fun a w H_ hle hS ha hd=>?_;exact aw ha rfl rfl fun a ha=>ql ha hS
     ·refine Qy1 1 rfl fun a w H_ hle hS ha hd=>?_;exact ac (f:=3) (o2:=3) T70 T4 rfl rfl rfl rfl ha rfl rfl fun a ha=>ql ha hS
     ·refine Qy1 2 rfl fun a w H_ hle hS ha hd=>?_;obtain⟨A1_,n1_,c1_,A2_,n2_,c2_,hqm_⟩:=HM.blk hM13;have hqb_:=hS.inv.own _ (bE [(eO b11 67 #[(iV x10.kd),(iV x10.a),(iV x10.b),(iV x10.c)])] hqm_) q6 rfl;exact af (v:=(.bool true)) T4 rfl ha rfl hqb_ rfl rfl fun a ha=>ql ha hS
     ·refine Qy1 3 rfl fun a w H_ hle hS ha hd=>?_;exact aT ha rfl rfl fun a ha=>ql ha hS
     ·refine Qy1 4 rfl fun a w H_ hle hS ha hd=>?_;exact ak ha rfl rfl fun a ha=>ql ha hS
     ·refine Qg 5 rfl fun a w H_ hle hS ha hd=>?_;exact ak ha rfl rfl fun a ha=>ql ha hS
     ·refine Qg 5 rfl fun a w H_ hle hS ha hd=>?_;obtain⟨_,ha,rfl⟩:=hd.g ha 6 rfl;exact aw ha rfl rfl fun a ha=>ql ha hS
     ·refine Qg 5 rfl fun a w H_ hle hS ha hd=>?_;obtain⟨_,ha,rfl⟩:=hd.g ha 7 rfl;exact ac (f:=0) (o2:=0) T70 T24 rfl rfl rfl rfl ha rfl rfl fun a ha=>ql ha hS
     ·refine Qg 5 rfl fun a w H_ hle hS ha hd=>?_;obtain⟨_,ha,rfl⟩:=hd.g ha 8 rfl;obtain⟨A1_,n1_,c1_,A2_,n2_,c2_,hqm_⟩:=HM.blk hM13;have hqb_:=hS.inv.own _ (bE [(eO b11 67 #[(iV x10.kd),(iV x10.a),(iV x10.b),(iV x10.c)])] hqm_) q6 rfl;exact af (v:=(pB p6)) T24 rfl ha rfl hqb_ rfl rfl fun a ha=>ql ha hS
     ·refine Qg 5 rfl fun a w H_ hle hS ha hd=>?_;exact ak ha rfl rfl fun a ha=>ql ha hS
     ·refine Qg 5 rfl fun a w H_ hle hS ha hd=>?_;obtain⟨_,ha,rfl⟩:=hd.g ha 10 rfl;have hk16:=c_mall (hS.tail [(eO b11 67 #[(iV x10.kd),(iV x10.a),(iV x10.b),(iV x10.c)])]) hM13 (by omega) (by omega);refine id (Co func34 ha rfl (hk16) ?_);rintro e w ⟨H15,A15,c15,rfl,hr15,hc15⟩;refine⟨_,rfl,fun a ha=>?_⟩;have hS:=hS.frameR [(eO b11 67 #[(iV x10.kd),(iV x10.a),(iV x10.b),(iV x10.c)])] hc15;exact qdone hc15.le ha hS ⟨_,_,rfl,hr15⟩
     ·refine Qg 5 rfl fun a w H_ hle hS ha hd=>?_;obtain⟨_,ha,rfl⟩:=hd.g ha 9 rfl;obtain⟨_,ha,A15,c15,rfl,hr15⟩:=hd.g ha 11 rfl;have hk18:=c_mAudit (hS.tail [(eO b11 67 #[(iV x10.kd),(iV x10.a),(iV x10.b),(iV x10.c)])]) hM13 hD13.ok hr15;rw [hau13] at hk18;refine id (Co func33 ha rfl (hk18) ?_);rintro e w ⟨H17,rfl,hc17⟩;refine⟨_,rfl,fun a ha=>?_⟩;have hS:=hS.frameR [(eO b11 67 #[(iV x10.kd),(iV x10.a),(iV x10.b),(iV x10.c)])] hc17;exact qdone hc17.le ha hS rfl
     ·refine Qg 5 rfl fun a w H_ hle hS ha hd=>?_;obtain⟨_,ha,rfl⟩:=hd.g ha 12 rfl;exact bG (i:=0) (j:=0) ha rfl rfl rfl fun a ha=>ql ha hS
     ·refine Qy1 5 rfl fun a w H_ hle hS ha hd=>?_;obtain⟨_,ha,rfl⟩:=hd.g ha 13 rfl;exact am ha rfl rfl rfl fun a ha=>ql ha hS
     obtain⟨_,ha,rfl⟩:=Dd ha hdr_ 14 rfl;refine aa (ai ha rfl (wp_skip (ap (aa (ab (lin rfl (aM (i:=((k: Nat): Int)) (j:=1) ha rfl rfl rfl (by omega) fun a ha=>?_)))))));refine Lm rfl ha fun a ha=>?_;refine wpList_nil (aa (?_));have hS:=hS.drop;exact⟨xs.length - (k+1),by omega,H19,(k+1),h13,ws13,bs13,L13,(hle8.trans (hc13.le.trans (hle19))),rfl,ha.pk rfl,hS,hM13,hD13,(by omega),(by omega),(by omega)⟩
    ·refine ai ha rfl (wp_exit (aA (aA (aV (aa (wp_seq (ab (Ls rfl ha fun a ha=>?_))))))));refine wpList_nil (aa (wp_ret (ret1 rfl ha rfl ?_)));exact⟨_,rfl,hS.drop_all⟩
end Go.Vk.Try
namespace Go.Vk.Try
open Go.ChangeShapes Go.WideShapes Go.ChangeAt Go.RowKit Go.Deep
theorem cells3: Go.Proofs.Try.prog.cellsOf 3=1:=by kernel_rfl
section
variable {H: Type} {enc: TypeId × Value→H} {W: World}
theorem cell_at {a: Addr} {v: Value} (h: W.cell? a=some v): ∃(cs: Array Value) (e: Nat) (fz: Nat × Nat),a=⟨a.block,a.off,none⟩∧W.heap[a.block]? =some (.cells cs e fz)∧cs[a.off]? =some v:=by
 have hs:=World.cell?_spot h;unfold World.cell? at h;rw [hs] at h
 cases hb: W.heap[a.block]? with
 | none=>rw [hb] at h;simp at h
 | some o =>
  rw [hb] at h
  cases o with
  | cells cs e fz =>
   refine⟨cs,e,fz,?_,rfl,by simpa using h⟩
   cases a;simp at hs;simp [hs]
  | _=>simp at h
theorem dm (a: Addr) (k: Nat):(a.add k).block=a.block:=by unfold Addr.add;split <;> rfl
theorem add_off (a: Addr) (k: Nat):(a.add k).off=a.off+k:=by
 unfold Addr.add
 split
 ·omega
 ·rfl
theorem bulk_len (l: List (DataW H)): l.length≤Go.Proofs.Ythblpljakpecdaa.Rows.uptoBulkAll l:=by
 induction l with
 | nil=>simp
 | cons x r ih =>
  have h1: 1≤Go.Proofs.Ythblpljakpecdaa.Rows.uptoBulk x:=by
   cases x with
   | lit l=>cases l <;> simp [Go.Proofs.Ythblpljakpecdaa.Rows.uptoBulk]
   | _=>simp [Go.Proofs.Ythblpljakpecdaa.Rows.uptoBulk]
  simp only [Go.Proofs.Ythblpljakpecdaa.Rows.uptoBulkAll,List.length_cons];omega
theorem inv_all (W: World): Inv W (fun b=>W.heap[b]?) []:=⟨fun e he=>(by cases he),List.Pairwise.nil,fun k o h=>⟨h,bN⟩⟩
theorem below_of {w: World} {H: PHeap} {H': PHeap} {w': World} (h: Step w H [] w' H' []): Below w.heap.size w w':=⟨h.os,h.tape,h.output,h.size,fun k hk=>h.blk k hk bN⟩
end
end Go.Vk.Try
namespace Go.Vk.Try
open Go.ChangeShapes Go.WideShapes Go.ChangeAt Go.RowKit Go.Deep Go.Proofs.Ythblpljakpecdaa
theorem own: ownKnob Go.Proofs.Try.prog.godebug=none:=by kernel_rfl
theorem laidOut: laidOutB prog=true:=by kernel_rfl
section
variable {H: Type} {enc: TypeId × Value→H} {W: World}
theorem trodAll_stays {W': World} (hb: Below W.heap.size W W') (sp: Nat→Bool): ∀(ts: List TypeId) (vs: List Value) (ds: List (DataW H)) (ps: List MemPlace),(∀ t ∈ ts,Go.Proofs.Try.prog.readableRec t=true∧t < Go.Proofs.Try.prog.types.size)→DataW.TrodAll enc prog W 0 (fun _=>true) true ts vs ds ps→(∀ x ∈ ps,x.block < W.heap.size)→(∀ x ∈ ps,sp x.block=true)→
  DataW.TrodAll enc prog W' 0 sp true ts vs ds ps
 | [], [], [],ps,_,h,_,_=>h
 | [],_::_,_,_,_,h,_,_=>h.elim
 | [], [],_::_,_,_,h,_,_=>h.elim
 | _::_, [],_,_,_,h,_,_=>h.elim
 | _::_,_::_, [],_,_,h,_,_=>h.elim
 | t::ts,v::vs,d::ds,ps,ht,h,hl,hs=>by
  obtain⟨p,q,h1,h2,rfl⟩:=h;refine⟨p,q,WideElems.Trod_stays laidOut (ht t List.mem_cons_self).1 (ht t List.mem_cons_self).2 h1 (fun x hx=>hb.same (hl x (List.mem_append_left _ hx))) (fun x hx=>hs x (List.mem_append_left _ hx)),?_,rfl⟩;exact trodAll_stays hb sp ts vs ds q (fun u hu=>ht u (List.mem_cons_of_mem _ hu)) h2 (fun x hx=>hl x (List.mem_append_right _ hx)) (fun x hx=>hs x (List.mem_append_right _ hx))
theorem open_intV {v: Value} {d: DataW H} {ps: List MemPlace} (h: DataW.Trod enc prog W 0 (fun _=>true) true 3 v d ps) (hv: Value.okWide prog W .any 0 3 v): ∃ i: Int,v=.int .i64 i:=by
 unfold Value.okWide at hv;rw [T3.und] at hv;obtain⟨n,h⟩:=h
 cases v with
 | int k i =>
  obtain⟨j,e,_⟩:=DataW.trod_int T3.und h;have e2: [Value.int k i]= [.int .i64 j]:=e;injection e2 with e3 _
  exact⟨j,e3⟩
 | _=>exfalso;simp [Cell.okWide,Cell.ok,T3.und] at hv
theorem post_old {f: Func} {s: ChangeSpec} {W': World} {args: Array Value} {ds gs: List (DataW H)} {before: List MemPlace} {l: DataW H} {r: Value}
  (hW: DataW.Whole enc prog f.params.toList s.vars false W args.toList ds gs before) (hvs: s.vars= []) (hds:(s.fn H (ds++gs)).args=ds) (hvr:(s.fn H (ds++gs)).vars= [])
  (hres: ∀(b: Nat) (sp: Nat→Bool) (hd: Bool),DataW.TrodAll enc prog W' b sp hd f.resultTypes.toList (r.resultList f.resultTypes.size) (s.fn H (ds++gs)).results [])
  (hb: Below W.heap.size W W') (hts: ∀ t ∈ f.params.toList,Go.Proofs.Try.prog.readableRec t=true∧t < Go.Proofs.Try.prog.types.size)
  (hok: ∀(j: Nat) (t: TypeId) (u: Value),f.resultTypes[j]? =some t→(r.resultList f.resultTypes.size)[j]? =some u→Value.okWide prog W' .any 0 t u) :
  s.post enc prog f false true false false W args r W':=by
 have hlt:=hW.lt;have hW0:=hW;obtain⟨p,q,hA,hV,rfl,hz,hn⟩:=hW0;rw [hvs] at hV;have hargs: ∀ sp: Nat→Bool,(∀ x ∈ p++q,sp x.block=true)→DataW.TrodAll enc prog W' 0 sp true f.params.toList args.toList (s.fn H (ds++gs)).args p:=fun sp hs=>by
  rw [hds];exact trodAll_stays hb sp _ _ _ _ hts hA (fun x hx=>hlt x (List.mem_append_left _ hx)) (fun x hx=>hs x (List.mem_append_left _ hx))
 obtain⟨rfl,rfl⟩:=trodVars_none hV;have hvars: ∀ sp: Nat→Bool,DataW.TrodVars enc prog W' sp s.vars (s.fn H (ds++ [])).vars []:=fun sp=>by rw [hvs,hvr];exact rfl
 have hold: ∀ x ∈ p++ [],(fun b=>decide (b < W.heap.size)) x.block=true:=fun x hx=>by simpa using hlt x hx
 refine⟨ds, [],p++ [], [],p, [],hW,hres _ _ _,hargs _ hold,hvars _,World.keptBut_mono (fun x hx=>⟨hx,.inr (by simpa using hx)⟩) (hb.frame _),fun _=>?_⟩;refine⟨hok,_,_,([]++p)++ [],⟨[]++p, [],trodAll_append (hargs _ (fun _ _=>rfl)) (hres _ _ _),hvars _,rfl,?_,?_⟩,?_⟩
 ·intro b off hp;have hp': MemPlace.cell b off ∈ p++ []:=by simpa using hp
  have h1:=hz b off hp';have h2:=hb.block b (hlt _ hp');unfold World.frozen? at h1 ⊢;rw [h2];exact h1
 ·intro ha;cases ha
 ·intro x hx _;simpa using hx
end
end Go.Vk.Try
namespace Go.Vk.Try
open Go.ChangeShapes Go.WideShapes Go.ChangeAt Go.RowKit Go.Deep Go.Proofs.Ythblpljakpecdaa
theorem cellsSt: Go.Proofs.Try.prog.cellsOf 67=4:=by kernel_rfl
section
variable {H: Type} {enc: TypeId × Value→H} {W: World}
theorem open_st {n: Nat} {cs: List Value} {x: DataW H × List MemPlace} (h: DataW.trod enc prog W 0 (fun _=>true) true n 67 cs=some x): ∃ p: StV,cs=p.cells:=by
 obtain⟨xs,m,_,rfl,hl,hlen,hf⟩:=DataW.trod_struct T67.und h;rw [cellsSt] at hl
 match cs,hl with
 | [c0,c1,c2,c3],_ =>
  match xs,hlen with
  | [y0,y1,y2,y3],_ =>
   have h0:=hf 0 _ rfl;have h1:=hf 1 _ rfl;have h2:=hf 2 _ rfl;have h3:=hf 3 _ rfl;simp [cells3] at h0 h1 h2 h3;obtain⟨k,e0,_⟩:=DataW.trod_int T3.und h0;obtain⟨i,e1,_⟩:=DataW.trod_int T3.und h1;obtain⟨j,e2,_⟩:=DataW.trod_int T3.und h2;obtain⟨l,e3,_⟩:=DataW.trod_int T3.und h3;simp only [List.cons.injEq,and_true] at e0 e1 e2 e3;subst e0 e1 e2 e3;exact⟨⟨k,i,j,l⟩,rfl⟩
theorem open_steps {v: Value} {d: DataW H} {ps: List MemPlace} (hB: Rows.uptoBulk d≤1048576) (hv: Value.okWide prog W .any 0 63 v) (h: DataW.Trod enc prog W 0 (fun _=>true) true 63 v d ps) :
  ∃(A: Option Addr) (xs: List StV) (c: Nat),v=.slice A xs.length c∧RowG 4 StV.cells (fun b=>W.heap[b]?) A c xs:=by
 obtain⟨n,h⟩:=h;have h: DataW.trod enc prog W 0 (fun _=>true) true n 63 [v]=some (d,ps):=by
  unfold Value.okWide at hv;rw [T63.und] at hv;unfold Cell.okWide at hv
  cases v with
  | slice a l c=>exact h
  | _=>first |(exfalso;simp [Cell.ok,T63.und] at hv;done) | exact h
 rcases open_slice T63.und h with ⟨hc,_⟩ |⟨a,len,cap,m,n',D,Pl,hc,_,hl,hm,hmm,hx,hall⟩
 ·simp only [List.cons.injEq,and_true] at hc;exact⟨none, [],0,hc,Nat.le_refl _,by simp,0,0,0,#[],(0,0),fun hn=>absurd rfl hn,fun j x hj=>by simp at hj⟩
 ·simp only [List.cons.injEq,and_true] at hc;simp only [if_true] at hmm;subst hmm;injection hx with hx1 hx2
  subst hx1;rw [cellsSt] at hall;simp only [Rows.uptoBulk] at hB;have hlen: len≤1048576:=by have:=bulk_len ((List.range len).map D);simp at this;omega
  have key: ∀ i,i < len→∃ p: StV,W.cells? 0 (a.add (i * 4)) 4=some p.cells:=by
   intro i hi;obtain⟨cs',h1,h2⟩:=hall i (by omega);obtain⟨p,rfl⟩:=open_st h2;exact⟨p,h1⟩
  classical
  let T: Nat→StV:=fun i=>if hi: i < len then (key i hi).choose else ⟨0,0,0,0⟩
  have hsp: ∀ i,i < len→W.cells? 0 (a.add (i * 4)) 4=some (T i).cells:=by
   intro i hi;simp only [T,dif_pos hi];exact(key i hi).choose_spec
  have hget: ∀(j: Nat) (t: StV),((List.range len).map T)[j]? =some t→j < len∧t=T j:=by
   intro j t hj;rw [List.getElem?_map] at hj
   by_cases hlt: j < len
   ·rw [List.getElem?_range hlt] at hj;exact⟨hlt,(Option.some.inj hj).symm⟩
   ·rw [List.getElem?_eq_none (by simpa using Nat.le_of_not_lt hlt)] at hj;cases hj
  refine⟨some a,(List.range len).map T,m,by rw [hc];simp,?_⟩
  ·refine⟨by simp;omega,by simp;omega,?_⟩
   by_cases h0: len=0
   ·subst h0;exact⟨0,0,0,#[],(0,0),fun hn=>absurd rfl hn,fun j t hj=>by simp at hj⟩
   ·obtain⟨_,hl4,hcell⟩:=World.cells?_some (hsp 0 (by omega));obtain⟨cs,e,fz,ha,hb,_⟩:=cell_at (hcell 0 (by omega));have hb': W.heap[a.block]? =some (.cells cs e fz):=by rw [dm,dm] at hb;exact hb
    have ha': a=⟨a.block,a.off,none⟩:=by
     have:=World.cell?_spot (hcell 0 (by omega))
     cases a;simp [Addr.add] at this;simp [this]
    refine⟨a.block,a.off,e,cs,fz,fun _=>⟨by rw [← ha'],hb'⟩,fun j t hj i u hu=>?_⟩;obtain⟨hlt,rfl⟩:=hget j t hj;obtain⟨_,_,hcell⟩:=World.cells?_some (hsp j hlt);have hi4: i < 4:=by have:=(List.getElem?_eq_some_iff.1 hu).1;rwa [show (T j).cells.length=4 from rfl] at this
    have h8:=hcell i hi4;rw [hu] at h8;obtain⟨cs2,e2,fz2,_,hb2,hu2⟩:=cell_at h8;have hb3: W.heap[a.block]? =some (.cells cs2 e2 fz2):=by rw [dm,dm] at hb2;exact hb2
    rw [hb'] at hb3;injection hb3 with hb3
    injection hb3 with hb3
    subst hb3;rw [add_off,add_off] at hu2;exact hu2
end
end Go.Vk.Try
namespace Go.Vk.Try
open Go.ChangeShapes Go.WideShapes Go.ChangeAt Go.RowKit Go.Deep Go.Proofs.Ythblpljakpecdaa
theorem heapTrue_contract (H: Type) (enc: TypeId × Value→H) (W: World) (base: Nat) (args: Array Value) (ds gs: List (DataW H)) (before: List MemPlace)
  (hval: ∀(j: Nat) t v,Go.Proofs.Try.f6.params[j]? =some t→args[j]? =some v→Value.okWide prog W .any 0 t v)
  (hW: DataW.Whole enc prog Go.Proofs.Try.f6.params.toList Rows.heapTrueSpec.vars false W args.toList ds gs before) (hk: Rows.uptoSmall H (ds++gs)=true) :
  Calls prog 6 args W fun e W'=> ∃ v,e=.returned v∧Rows.heapTrueSpec.post enc prog f6 false true false false W args v W':=by
 have hW':=hW;obtain⟨p,q,hA0,hV,rfl,hfz,hnd⟩:=hW;have hA: DataW.TrodAll enc prog W 0 (fun _=>true) true Go.Proofs.Try.f6.params.toList args.toList ds p:=hA0;rw [params6] at hA hval;obtain⟨v0,v1,d0,d1,p0,p1,rfl,rfl,rfl,g0,g1⟩:=trodAll_two hA;obtain⟨rfl,rfl⟩:=trodVars_none hV;have hb: Rows.uptoBulkAll ([d0,d1]++ [])≤1048576:=of_decide_eq_true hk;simp only [List.append_nil,Rows.uptoBulkAll] at hb;obtain⟨i0,rfl⟩:=open_intV g0 (hval 0 3 v0 J J);obtain⟨A1,xs1,c1,rfl,h1⟩:=open_steps (by omega) (hval 1 63 v1 J J) g1;refine(c_HeapTrue (inv_all W) h1).mono fun e W' hh=>?_;obtain⟨H',rfl,hS⟩:=hh;exact⟨_,rfl,post_old (l:=d0) hW' J J J (fun _ _ _=>trodAll_mk1 (shut_bool underlying4 _)) (below_of hS) (by rw [params6];intro t ht;simp at ht;rcases ht with rfl | rfl <;> exact⟨by kernel_rfl,of_decide_eq_true (by kernel_rfl)⟩) (ok_one (by kernel_rfl) J (okWide_bool_mk underlying4 _))⟩
theorem heapTrue_lifted (os: Os) (started: os.Started) (H: Type) (enc: TypeId × Value→H) (F: Stop.Interp) :
  ReturnsInHanded {} checked os 6 .any ((Rows.OpenSpec.upto Rows.heapTrueSpec).pre6 enc prog f6 Rows.heapTrueUptoRow.domain false) (((Rows.OpenSpec.upto Rows.heapTrueSpec).at F).post enc prog f6 false true false false):=by
 refine returnsInHanded_of_cond (C:=checked) (s:=Rows.OpenSpec.upto Rows.heapTrueSpec) (k:=Rows.uptoSmall) J own started (by kernel_rfl) func6
  (OpenSpec.witness (enc:=enc) (C:=checked) (s:=Rows.OpenSpec.upto Rows.heapTrueSpec) (k:=Rows.uptoSmall) J false ⟨#[],#[.int .i64 0,.slice none 0 0], []⟩ 8 (by kernel_rfl) (by kernel_rfl) (by kernel_rfl)
   (x:=([.lit (.int .i64 0),.nil], [], [])) (by kernel_rfl) J (by kernel_rfl)) ?_
 intro W base args ds gs before hval hW _ hk _;exact heapTrue_contract H enc W base args ds gs before hval hW hk
theorem heapTrue_proved: Rows.HeapTrueUptoSaid:=
 OpenClaim.holds_of_cond 6 f6 J J J J J J J ⟨rfl,rfl,rfl,rfl,rfl⟩ rfl J J J J (by kernel_rfl) func6 (by kernel_rfl)
  (of_decide_eq_true (by kernel_rfl)) (by unfold Func.isWrapper;first |(rw [if_pos (by decide +kernel)];kernel_rfl) |(rw [if_neg (by decide +kernel)];exact⟨rfl,rfl⟩))
  (fun os started H enc _ F=>heapTrue_lifted os started H enc F)
end Go.Vk.Try
namespace Go.Proofs.Ythblpljakpecdaa
theorem heapTrue_holds: Rows.HeapTrueUptoSaid:=Go.Vk.Try.heapTrue_proved
end Go.Proofs.Ythblpljakpecdaa

