/- Part 4 of the proof of heapReadsBack_holds. Conditions: none. -/
import Derived.Test.YthblpljakpecdaaC3
set_option linter.unusedVariables false
set_option linter.unusedSimpArgs false
set_option linter.unusedSectionVars false
set_option maxRecDepth 100000
open Go.Proofs.Try
namespace Go.Vk
open Go.RowKit
section
variable {P: Program} {a: Act} {w w0: World} {H0 H: PHeap} {L0 L: List Ent} {N: Nat} {m: Env} {R: Ending→World→Prop}
theorem leaves_marks2 {fn: Func} {t t': Nat} {v v': Value} {tmps: Array Value} (hr: fn.results= #[.tmp t,.tmp t']) (hv: tmps[t]? =some v) (hv': tmps[t']? =some v'): ∀(rs: List Nat) (w: World) (L: List Ent),Step w0 H0 L0 w H (rs.map openBlk++L)→(∀ w',Step w0 H0 L0 w' H L→R (.returned (.tuple #[v,v'])) w')→LeavesInM Fence.wide 0 P fn tmps R (rs.map markOf) .returning w
 | [],w,L,hS,k=>⟨.tuple #[v,v'],by simp [results,hr,Array.getD_eq_getD_getElem?,hv,hv'],k w (by simpa using hS)⟩
 | r::rs,w,L,hS,k=>by
  have hb: w.heap[r]? =some (.deferred (some [])):=hS.inv.at_ 0 rfl;have hS':=(hS.putObj 0 (b:=r) rfl (.deferred none)).drop;exact⟨by simp,.inl ⟨r,w.putObj r (.deferred none),rfl,run_takeDeferred hb,leaves_marks2 hr hv hv' rs _ L hS' k⟩⟩
theorem retM2 {fn: Func} {t t': Nat} {v v': Value} {rs: List Nat} (hr: fn.results= #[.tmp t,.tmp t']) (hS: Step w0 H0 L0 w H (rs.map openBlk++L)) (ha: Has (rs.map markOf) a N m) (hv: lk m t=some v) (hv': lk m t'=some v') (k: ∀ w',Step w0 H0 L0 w' H L→R (.returned (.tuple #[v,v'])) w'): bodyPostM Fence.wide 0 P fn R .ret a w:=by
 show LeavesInM Fence.wide 0 P fn a.tmps R a.defers .returning w
 rw [ha.dfr];exact leaves_marks2 hr (ha.get t v hv) (ha.get t' v' hv') rs w L hS k
end
end Go.Vk
namespace Go.Vk.Try
open Go.RowKit
theorem c_tVars {w0: World} {H: PHeap} (hI: Inv w0 H []) {A: Option Addr} {c: Nat} {ts: List Tm} (hr: RowT H A c ts) (hok: chkAll 4000 ts=true) (hz: Tm.szL ts≤1000000) (hvb: ∀ x ∈ ndsL ts,x.kind=1→0≤x.n∧x.n < 1000000): Calls prog 67 #[(.slice A ts.length c)] w0 (fun e w'=> ∃ H' A c en,e=.returned (.tuple #[.slice A (varsN ts).length c,.int .i64 0])∧Row (.slice A (varsN ts).length c) en 3 1 (varsN ts).length (ints (varsN ts))∧Step w0 H [] w' H' [en]):=by
 have hS:=Step.refl hI;have hlr:=hr.len;refine enter [(.slice A ts.length c)] func67 rfl ntmps67 rfl fun a ha=>?_;refine wp_seq (ab (Ls rfl ha fun a ha=>?_));refine Ls rfl ha fun a ha=>?_;refine wpList_nil (aa (wp_seq (wp_seq (ab (Lm rfl ha fun a ha=>?_)))));have hk1:=c_CheckAll hS.inv.nil hr;rw [if_pos hok] at hk1;refine lin rfl (aw func101 rfl rfl (ha.evs rfl) ha rfl (hk1) ?_);rintro e w ⟨rfl,hc⟩;refine⟨_,rfl,fun a ha=>?_⟩;have hS:=hS.call hc;refine Ls rfl ha fun a ha=>?_;refine wpList_nil (aa (wp_seq (ab (Lm rfl ha fun a ha=>?_))));refine lin rfl (br (i:=0) (j:=0) ha rfl rfl rfl fun a ha=>?_);refine wpList_nil (aa (ah ha rfl (wp_skip (aa (wp_seq (ab (Lm rfl ha fun a ha=>?_)))))));have hk3:=c_tvars hS.inv.nil hr hz hvb;refine lin rfl (aw func102 rfl rfl (ha.evs rfl) ha rfl (hk3) ?_);rintro e w ⟨H2,A2,c2,en2,rfl,hR2,hc2⟩;refine⟨_,rfl,fun a ha=>?_⟩;have hS:=Step.frame (Lc:= []) hS hc2;refine Ls rfl ha fun a ha=>?_;refine Ls rfl ha fun a ha=>?_;refine wpList_nil (aa (wp_ret (ret2 rfl ha rfl rfl ?_)));exact⟨_,_,_,_,rfl,hR2,hS⟩
set_option maxHeartbeats 1000000 in
theorem c_tTimes {w0: World} {H: PHeap} (hI: Inv w0 H []) {t: Tm} {A: Option Addr} {c: Nat} {v: Int} (hr: RowT H A c t.l) (hok: isTm t=true): Calls prog 68 #[(tv t A c),(iV v)] w0 (fun e w'=> ∃ H',e=.returned (.tuple #[.int .i64 ((timesN t v: Nat): Int),.int .i64 0])∧Step w0 H [] w' H' []):=by
 have hS:=Step.refl hI;have hsz_:=dU hok;have hnl_:=eH t;refine enterM [(tv t A c),(iV v)] func68 rfl ntmps68 rfl fun a ha=>?_;refine wp_seq (ab (lin rfl (aJ (cs:=(tA t A c)) hS ha rfl rfl rfl fun b1 a w hS ha=>?_)));refine lin rfl (aJ (cs:= #[(iV v)]) hS ha rfl rfl rfl fun b3 a w hS ha=>?_);refine Ls rfl ha fun a ha=>?_;refine Ls rfl ha fun a ha=>?_;refine wpList_nil (aa (wp_seq (wp_seq (ab (lin rfl (an (vs:=(tL t A c)) T46 rfl ha rfl (hS.blkL 1 rfl) rfl (ak rfl) rfl fun a ha=>?_))))));have hk5:=fp hS.inv.nil hr;rw [if_pos hok] at hk5;refine lin rfl (aw func66 rfl rfl (ha.evs rfl) ha rfl (hk5) ?_);rintro e w ⟨rfl,hc⟩;refine⟨_,rfl,fun a ha=>?_⟩;have hS:=hS.call hc;refine Ls rfl ha fun a ha=>?_;refine wpList_nil (aa (wp_seq (ab (Lm rfl ha fun a ha=>?_))));refine lin rfl (br (i:=0) (j:=0) ha rfl rfl rfl fun a ha=>?_);refine wpList_nil (aa (ah ha rfl (wp_skip (aa (wp_seq (ab (lin rfl (aC (cs:= #[(iV 0)]) T3 hS ha rfl rfl fun b6 a w hS ha=>?_))))))));refine lin rfl (ao (cs':= #[(iV 0)]) T3 hS (i:=0) rfl ha rfl rfl rfl rfl rfl rfl fun a w hS ha=>?_);refine wpList_nil (aa (wp_seq (wp_seq (ab (lin rfl (an (vs:=(tL t A c)) T46 rfl ha rfl (hS.blkL 2 rfl) rfl (ak rfl) rfl fun a ha=>?_))))));have hk9:=c_tnodes hS.inv.nil hr;refine lin rfl (aw func103 rfl rfl (ha.evs rfl) ha rfl (hk9) ?_);rintro e w ⟨H8,bt8,A8,c8,rfl,hbt8,hr8,hc8⟩;refine⟨_,rfl,fun a ha=>?_⟩;have hS:=hS.call hc8;refine wpList_nil (aa (wp_block ?_));have hS:=hS.front 2 rfl;have hS:=hS.drop;have hS: Step w0 H [] w H8 ((some b6,(.cells #[(iV 0)] 3 (0,0)))::(some b3,(.cells #[(iV v)] 3 (0,0)))::([]: List Ent)):=hS;refine c_range1 (D:= []) (N:=29) (m:= [(3,(pB b3)),(4,(iV 0)),(5,(iV 0)),(7,(pB b6)),(15,(.func (.func 114) #[] #[.pointer (some ⟨bt8,0,none⟩)]))]) (w0:=w0) (H0:=H) (L0:= []) (H:=H8) (L:=((some b6,(.cells #[(iV 0)] 3 (0,0)))::(some b3,(.cells #[(iV v)] 3 (0,0)))::([]: List Ent))) (n:=(nds t).length) func114 rfl rfl rfl rfl (ha.pk rfl) hS (c_tnodes1 hbt8 hr8) (fun kq H1 L1=>L1=((some b6,(.cells #[(iV ((((nds t).take kq).countP (cV v): Nat): Int))] 3 (0,0)))::(some b3,(.cells #[(iV v)] 3 (0,0)))::([]: List Ent))∧Le H8 H1) ⟨rfl,Le.refl _⟩ (fun kq v Hy E a2=> ∃(bq: Nat) (tq: Tm) (Aq: Option Addr) (cq: Nat),(nds t)[kq]? =some tq∧v=tv tq Aq cq∧RowT Hy Aq cq tq.l∧E= [(some bq,.cells (tA tq Aq cq) 46 (0,0))]∧Has [] a2 29 [(3,(pB b3)),(4,(iV 0)),(5,(iV 0)),(7,(pB b6)),(8,(pB bq)),(15,(.func (.func 114) #[] #[.pointer (some ⟨bt8,0,none⟩)]))]) ?_ ?_ ?_
 ·rintro l kq vq w el er Hy Ly a hk ⟨t_,A_,c_,ht_,rfl,hr_⟩ ⟨rfl,hleS⟩ hS ha;refine aY rfl (fun⟨_,_,h⟩=>by cases h.1) ?_;refine lin rfl (aC (cs:=aZ) T46 hS ha rfl rfl fun b10 a w hS ha=>?_);refine lin rfl (ao (cs':=(tA t_ A_ c_)) T46 hS (i:=0) rfl ha rfl rfl rfl rfl rfl rfl fun a w hS ha=>?_);refine wpList_nil ?_;exact⟨rfl,_,⟨_,t_,A_,c_,ht_,rfl,hr_,rfl,ha.pk rfl⟩,((hS.front 1 rfl).front 2 rfl).front 1 rfl⟩
 ·rintro l kq vq W0 Hz Lz w el er Hy Ly E a hk _ ⟨rfl,hleS⟩ ⟨bx,t_,A_,c_,ht_,rfl,hr_,rfl,ha⟩ hS;have hS: Step W0 Hz Lz w Hy (el::er::(some bx,(.cells (tA t_ A_ c_) 46 (0,0)))::(some b6,(.cells #[(iV ((((nds t).take kq).countP (cV v): Nat): Int))] 3 (0,0)))::(some b3,(.cells #[(iV v)] 3 (0,0)))::([]: List Ent)):=hS;have hcp_:=List.countP_le_length (p:=cV v) (l:=(nds t).take kq);rw [List.length_take] at hcp_;have hcs_:=count_step (v:=v) ht_;refine wpIn_block ?_;refine wpIn_seq ?_;refine aY rfl (fun h_=>by obtain⟨_,_,h_⟩:=h_;have h_:=And.left h_;cases h_) ?_;refine lin rfl (ac (f:=0) (o2:=0) T46 T3 rfl rfl rfl rfl ha rfl rfl fun a ha=>?_);refine lin rfl (ae (v:=(iV t_.kind)) T3 rfl ha rfl (hS.blkL 2 rfl) rfl rfl fun a ha=>?_);refine lin rfl (aP (i:=t_.kind) (j:=1) ha rfl rfl rfl fun a ha=>?_);refine Lm rfl ha fun a ha=>?_;refine aj (t:=20) ha rfl (fun h12 ha=>?_) (fun h12 ha=>?_)
  ·refine ad rfl ha rfl rfl rfl (ac (f:=1) (o2:=1) T46 T3 rfl rfl rfl rfl ha rfl rfl fun a ha=>?_);refine ad rfl ha rfl rfl rfl (ae (v:=(iV t_.n)) T3 rfl ha rfl (hS.blkL 2 rfl) rfl rfl fun a ha=>?_);refine ad rfl ha rfl rfl rfl (ae (v:=(iV v)) T3 rfl ha rfl (hS.blkL 4 rfl) rfl rfl fun a ha=>?_);refine ad rfl ha rfl rfl rfl (aP (i:=t_.n) (j:=v) ha rfl rfl rfl fun a ha=>?_);refine lin rfl (am ha rfl rfl rfl fun a ha=>?_);refine wpList_nil (aa (aj (t:=25) ha rfl (fun h13 ha=>?_) (fun h13 ha=>?_)))
   ·refine cIn_true ha rfl ?_;refine aY rfl (fun h_=>by obtain⟨_,_,h_⟩:=h_;have h_:=And.left h_;cases h_) ?_;refine lin rfl (ae (v:=(iV ((((nds t).take kq).countP (cV v): Nat): Int))) T3 rfl ha rfl (hS.blkL 3 rfl) rfl rfl fun a ha=>?_);refine lin rfl (aE (i:=((((nds t).take kq).countP (cV v): Nat): Int)) (j:=1) ha rfl rfl rfl (by omega) fun a ha=>?_);refine lin rfl (ao (cs':= #[(iV (((((nds t).take kq).countP (cV v): Nat): Int)+1))]) T3 hS (i:=3) rfl ha rfl rfl rfl rfl rfl rfl fun a w hS ha=>?_);refine wpList_nil (au (?_));have hS:=hS.front 2 rfl;have hS:=hS.drop;have hz_: cV v t_=true:=by
     unfold cV;rw [decide_eq_true h12,decide_eq_true h13];rfl
    rw [hz_] at hcs_;have hzz_:((((nds t).take (kq+1)).countP (cV v): Nat): Int)=(((((nds t).take kq).countP (cV v): Nat): Int)+1):=by rw [hcs_];rfl
    exact⟨rfl,Hy,((some b6,(.cells #[(iV (((((nds t).take kq).countP (cV v): Nat): Int)+1))] 3 (0,0)))::(some b3,(.cells #[(iV v)] 3 (0,0)))::([]: List Ent)),⟨by rw [hzz_],hleS⟩,hS⟩
   ·refine dE ha rfl ?_;refine wpIn_skip ?_;refine au (?_);have hS:=hS.front 2 rfl;have hS:=hS.drop;have hz_: cV v t_=false:=by
     unfold cV;rw [decide_eq_true h12,decide_eq_false h13];rfl
    rw [hz_] at hcs_;have hzz_:((((nds t).take (kq+1)).countP (cV v): Nat): Int)=((((nds t).take kq).countP (cV v): Nat): Int):=by rw [hcs_];simp
    exact⟨rfl,Hy,((some b6,(.cells #[(iV ((((nds t).take kq).countP (cV v): Nat): Int))] 3 (0,0)))::(some b3,(.cells #[(iV v)] 3 (0,0)))::([]: List Ent)),⟨by rw [hzz_],hleS⟩,hS⟩
  ·refine Lf rfl ha rfl rfl fun a ha=>?_;refine Lf rfl ha rfl rfl fun a ha=>?_;refine Lf rfl ha rfl rfl fun a ha=>?_;refine Lf rfl ha rfl rfl fun a ha=>?_;refine lin rfl (ai ha rfl rfl rfl fun a ha=>?_);refine wpList_nil (aa (dE ha rfl ?_));refine wpIn_skip ?_;refine au (?_);have hS:=hS.front 2 rfl;have hS:=hS.drop;have hz_: cV v t_=false:=by
    unfold cV;rw [decide_eq_false h12];rfl
   rw [hz_] at hcs_;have hzz_:((((nds t).take (kq+1)).countP (cV v): Nat): Int)=((((nds t).take kq).countP (cV v): Nat): Int):=by rw [hcs_];simp
   exact⟨rfl,Hy,((some b6,(.cells #[(iV ((((nds t).take kq).countP (cV v): Nat): Int))] 3 (0,0)))::(some b3,(.cells #[(iV v)] 3 (0,0)))::([]: List Ent)),⟨by rw [hzz_],hleS⟩,hS⟩
 ·rintro r_ w Hs Ly a ⟨rfl,hleS⟩ hS ha;have hS:=Step.marks (e:=openBlk r_) (M:= [(some b6,(.cells #[(iV ((((nds t).take (nds t).length).countP (cV v): Nat): Int))] 3 (0,0))),(some b3,(.cells #[(iV v)] 3 (0,0)))]) (X:=([]: List Ent)) hS;rw [List.take_of_length_le (Nat.le_refl _)] at hS;refine au (aa (wp_seq (ab (lin rfl (ae (v:=(iV (((nds t).countP (cV v): Nat): Int))) T3 rfl ha rfl (hS.blkL 0 rfl) rfl rfl fun a ha=>?_)))));refine Ls rfl ha fun a ha=>?_;refine Ls rfl ha fun a ha=>?_;refine wpList_nil (aa (wp_ret ?_));have hS:=hS.drop;have hS:=hS.drop;exact retM2 (rs:= [r_]) rfl hS ha rfl rfl fun w hS=>⟨_,rfl,hS⟩
end Go.Vk.Try
namespace Go.Vk
open Go.RowKit
structure MO (h: HS) (mk: List Int): Prop where
 ok: h.Ok
 at_: ∀ a ∈ mk,0≤a∧∃ b,h.S[a.toNat]? =some (some b)
 nd: mk.Nodup
theorem MO.nil {h: HS} (hO: h.Ok): MO h []:=⟨hO,(fun a ha=>by cases ha),List.nodup_nil⟩
theorem MO.place {h: HS} {mk: List Int} (hm: MO h mk) {b: PB} (hb: b.ok) (hp: ¬(h.place b).2 < 0): MO (h.place b).1 (mk++ [(h.place b).2]):=by
 have ho:=hm.ok.place hb;rw [bI] at hp ⊢
 rcases bH h.tk b.size with h1 |⟨p,h1,h2,h3⟩
 ·omega
 ·have hs:=hb.size;have hl:=hm.ok.ltk;have hS:(h.place b).1.S=h.S.set p (some b):=by
   unfold HS.place;dsimp only;rw [if_neg hp,h1];rfl
  have hnew: ∀(c: PB),h.S[p]?≠some (some c):=by
   intro c hc;have h4:=(hm.ok.tkn p).2 ⟨p,c,hc,Nat.le_refl _,by have:=(hm.ok.blk p c hc).1.size;omega⟩;rw [h3 p (Nat.le_refl _) (by omega)] at h4
   cases h4
  rw [h1];refine⟨ho,fun a ha=>?_,?_⟩
  ·rcases List.mem_append.1 ha with ha | ha
   ·obtain⟨h4,c,h5⟩:=hm.at_ a ha;exact⟨h4,c,cB hm.ok h5⟩
   ·rw [List.mem_singleton.1 ha];exact⟨by omega,b,by rw [hS,Int.toNat_natCast,List.getElem?_set,if_pos rfl,if_pos (by omega)]⟩
  ·rw [List.nodup_append];refine⟨hm.nd,by simp,fun a ha c hc e=>?_⟩;rw [List.mem_singleton.1 hc] at e;obtain⟨_,d,h5⟩:=hm.at_ a ha;rw [e,Int.toNat_natCast] at h5;exact hnew d h5
theorem MO.clear {h: HS} {a: Int} {mk: List Int} (hm: MO h (a::mk)): MO (h.clear a.toNat) mk:=by
 obtain⟨h0,b,hb⟩:=hm.at_ a List.mem_cons_self;have hnd:=List.nodup_cons.1 hm.nd;have hg: h.S.getD a.toNat none=some b:=by rw [List.getD_eq_getElem?_getD,hb];rfl
 refine⟨hm.ok.clear _,fun c hc=>?_,hnd.2⟩;obtain⟨h1,d,hd⟩:=hm.at_ c (List.mem_cons_of_mem _ hc);refine⟨h1,d,?_⟩;unfold HS.clear;rw [hg]
 show (h.S.set _ _)[_]? =_
 rw [List.getElem?_set_ne]
 ·exact hd
 ·intro e;have: a=c:=by omega
  subst this;exact hnd.1 hc
mutual
theorem cU {vars: List Wd} {mo: Int→Bool}: ∀(t: Tm) (h: HS) (mk: List Int),(∀ x ∈ nds t,x.l.length≤64)→MO h mk→MO (bldS vars mo t (h,mk)).1.1 (bldS vars mo t (h,mk)).1.2
 | .mk k n s l,h,mk,hn,hm=>by
  have hl:=d5 (vars:=vars) (mo:=mo) l h mk (fun x hx=>hn x (by rw [nds];exact List.mem_cons_of_mem _ hx)) hm;rw [bldS]
  split
  ·exact hm
  ·split
   ·exact hm
   ·split
    ·exact hm
    ·split
     ·exact hm
     ·split
      ·rename_i st' h1;rw [h1] at hl;exact hl.1
      ·rename_i st' ws h1
       rw [h1] at hl;have hw: ws.length≤64:=by rw [hl.2 ws rfl];exact hn (.mk k n s l) (by rw [nds];exact List.mem_cons_self)
       by_cases hp:(st'.1.place (if k=5 then PB.fn s ws else PB.vec ws)).2 < 0
       ·rw [if_pos hp];exact hl.1
       ·rw [if_neg hp];refine hl.1.place ?_ hp
        split
        ·exact hw
        ·exact hw
theorem d5 {vars: List Wd} {mo: Int→Bool}: ∀(ts: List Tm) (h: HS) (mk: List Int),(∀ x ∈ ndsL ts,x.l.length≤64)→MO h mk→MO (bldL vars mo ts (h,mk)).1.1 (bldL vars mo ts (h,mk)).1.2∧∀ ws,(bldL vars mo ts (h,mk)).2=some ws→ws.length=ts.length
 | [],h,mk,_,hm=>by
  rw [bldL];exact⟨hm,fun ws hw=>by obtain rfl:=Option.some.inj hw;rfl⟩
 | t::ts,h,mk,hn,hm=>by
  have h1:=cU (vars:=vars) (mo:=mo) t h mk (fun x hx=>hn x (by rw [ndsL];exact List.mem_append_left _ hx)) hm;rw [ba]
  split
  ·rename_i st' e;rw [e] at h1;exact⟨h1,fun ws hw=>by cases hw⟩
  ·rename_i st' w e
   rw [e] at h1;have h2:=d5 (vars:=vars) (mo:=mo) ts st'.1 st'.2 (fun x hx=>hn x (by rw [ndsL];exact List.mem_append_right _ hx)) h1
   split
   ·rename_i e2;rw [e2] at h2;exact⟨h2.1,fun ws hw=>by cases hw⟩
   ·rename_i e2
    rw [e2] at h2;exact⟨h2.1,fun ws hw=>by obtain rfl:=Option.some.inj hw;rw [List.length_cons,List.length_cons,h2.2 _ rfl]⟩
end
theorem HS.Ok.build {h: HS} (hO: h.Ok) (t: Tm) (vars: List Wd):(h.build t vars).1.Ok:=by
 unfold HS.build
 split
 ·exact hO
 ·rename_i h1
  have ht: isTm t=true:=by simpa using h1
  have hm:=cU (vars:=vars) (mo:=moreN t) t h [] (fun x hx=>bF (b0 ht x hx)) (MO.nil hO)
  split
  ·exact hO
  ·split
   ·exact hO
   ·split
    ·rename_i st e
     rw [e] at hm;have key: ∀(mk: List Int) (g: HS),g.Ok→(mk.foldl (fun g a=>g.clear a.toNat) g).Ok:=by
      intro mk
      induction mk with
      | nil=>intro g hg;exact hg
      | cons a mk ih=>intro g hg;exact ih _ (hg.clear _)
     exact key st.2 st.1 hm.ok
    ·rename_i st w e
     rw [e] at hm;exact hm.ok
theorem clear_step {h: HS} {mk: List Int} {k: Nat} {a: Int} (ha: mk[k]? =some a):(mk.drop k).foldl (fun g a=>g.clear a.toNat) h=(mk.drop (k+1)).foldl (fun g a=>g.clear a.toNat) (h.clear a.toNat):=by
 rw [aK ha];rfl
end Go.Vk
namespace Go.Vk.Try
open Go.RowKit
set_option maxHeartbeats 2000000 in
theorem eM {w0: World} {H: PHeap} {L: List Ent} {p: Nat} {h: HS} (hI: Inv w0 H L) (hK: HK p h L) (hO: h.Ok) {t: Tm} {A: Option Addr} {c: Nat} (hr: RowT H A c t.l) {Av: Option Addr} {cv: Nat} {vars: List Wd} (hv: RdG 4 Wd.cells w0 L Av cv vars): Calls prog 29 #[(pB p),(tv t A c),(.slice Av vars.length cv)] w0 (fun e w'=> ∃ H' L',e=.returned (.tuple #[wv (h.build t vars).2.1,.int .i64 (h.build t vars).2.2])∧HK p (h.build t vars).1 L'∧Step w0 H L w' H' L'):=by
 have hS:=Step.refl hI;have hvm_:=hv.hm;refine enter [(pB p),(tv t A c),(.slice Av vars.length cv)] func29 rfl ntmps29 rfl fun a ha=>?_;refine wp_seq (ab (lin rfl (aJ (cs:=(tA t A c)) hS ha rfl rfl rfl fun b1 a w hS ha=>?_)));refine lin rfl (aC (cs:= #[(iV 0),(iV 0),(.string (⟨#[]⟩)),(.bool false)]) T34 hS ha rfl rfl fun b3 a w hS ha=>?_);refine Ls rfl ha fun a ha=>?_;refine wpList_nil (aa (wp_seq (wp_seq (ab (lin rfl (an (vs:=(tL t A c)) T46 rfl ha rfl (hS.blkL 1 rfl) rfl (ak rfl) rfl fun a ha=>?_))))));refine lin rfl (aw func66 rfl rfl (ha.evs rfl) ha rfl (fp (t:=t) hS.inv.nil hr) ?_);rintro e w ⟨rfl,hc⟩;refine⟨_,rfl,fun a ha=>?_⟩;have hS:=hS.call hc;refine Ls rfl ha fun a ha=>?_;refine wpList_nil (aa (wp_seq (ab (Lm rfl ha fun a ha=>?_))));refine lin rfl (br (i:=(if isTm t then (0: Int) else 3)) (j:=0) ha rfl rfl rfl fun a ha=>?_);refine wpList_nil (aa (aX (t:=23) ha rfl (fun h5 ha=>?_) (fun h5 ha=>?_)))
 ·have hok: isTm t=false:=by
   cases h_: isTm t with
   | true=>have h2_:=h5;rw [h_] at h2_;simp at h2_
   | false=>rfl
  refine ap ha rfl (wp_seq (ab (lin rfl (aD (vs:= []) (cells:= [(iV 0),(iV 0),(.string (⟨#[]⟩)),(.bool false)]) T34 PL34 ha (ha.evp rfl) rfl rfl fun a ha=>?_))));refine Lm rfl ha fun a ha=>?_;refine lin rfl (ao (cs':= #[(iV 0),(iV 0),(.string (⟨#[]⟩)),(.bool false)]) T34 hS (i:=0) rfl ha rfl rfl rfl rfl rfl rfl fun a w hS ha=>?_);refine Ls rfl ha fun a ha=>?_;refine wpList_nil (aa (wp_ret (ag (retA1 (i:=0) (cs:= #[(iV 0),(iV 0),(.string (⟨#[]⟩)),(.bool false)]) rfl T34 rfl hS rfl ha rfl rfl rfl ?_))));have hS:=hS.drop;have hS:=hS.drop;have hq_: h.build t vars=(h,(Wd.zero,3)):=by unfold HS.build;rw [if_pos hok]
  rw [hq_];rw [hok];exact⟨_,_,rfl,hK,hS⟩
 ·have hok: isTm t=true:=by
   cases h_: isTm t with
   | true=>rfl
   | false=>have h2_:=h5;rw [h_] at h2_;simp at h2_
  have hsz_:=dU hok;have hvl_:=vars_len hok;have hvbd_:=vars_bd hok;refine ah ha rfl (wp_skip (aa (wp_seq (wp_seq (ab (Lm rfl ha fun a ha=>?_))))));refine lin rfl (a6 T24.und T88 ha rfl rfl rfl fun a ha=>?_);refine Lm rfl ha fun a ha=>?_;refine ad rfl ha rfl rfl rfl (aq ha rfl rfl fun a ha=>?_);refine ad rfl ha rfl rfl rfl (aq ha rfl rfl fun a ha=>?_);have hKo_:=hK;obtain⟨bs6,hbs6,hP6⟩:=hKo_;have hk7:=fV (hS.tail [(some b3,(.cells #[(iV 0),(iV 0),(.string (⟨#[]⟩)),(.bool false)] 34 (0,0))),(some b1,(.cells (tA t A c) 46 (0,0)))]) hP6 (hv.at_ (H':=H) hS (bG [(some b3,(.cells #[(iV 0),(iV 0),(.string (⟨#[]⟩)),(.bool false)] 34 (0,0))),(some b1,(.cells (tA t A c) 46 (0,0)))]));rw [hbs6] at hk7;refine ad rfl ha rfl rfl rfl (aw func51 rfl rfl (ha.evs rfl) ha rfl (hk7) ?_);rintro e w ⟨rfl,hc⟩;refine⟨_,rfl,fun a ha=>?_⟩;have hS:=hS.frameR [(some b3,(.cells #[(iV 0),(iV 0),(.string (⟨#[]⟩)),(.bool false)] 34 (0,0))),(some b1,(.cells (tA t A c) 46 (0,0)))] hc;refine ad rfl ha rfl rfl rfl (aL ha rfl rfl fun a ha=>?_);refine lin rfl (ai ha rfl rfl rfl fun a ha=>?_);refine wpList_nil (aa (av (t:=33) ha rfl (fun h8 ha=>?_) (fun h8 ha=>?_)))
  ·have hal_: allS (HS.S h) vars=false:=by simpa using h8
   refine ap ha rfl (wp_seq (ab (lin rfl (aD (vs:= []) (cells:= [(iV 0),(iV 0),(.string (⟨#[]⟩)),(.bool false)]) T34 PL34 ha (ha.evp rfl) rfl rfl fun a ha=>?_))));refine lin rfl (ao (cs':= #[(iV 0),(iV 0),(.string (⟨#[]⟩)),(.bool false)]) T34 hS (i:=0) rfl ha rfl rfl rfl rfl rfl rfl fun a w hS ha=>?_);refine Ls rfl ha fun a ha=>?_;refine wpList_nil (aa (wp_ret (ag (retA1 (i:=0) (cs:= #[(iV 0),(iV 0),(.string (⟨#[]⟩)),(.bool false)]) rfl T34 rfl hS rfl ha rfl rfl rfl ?_))));have hS:=hS.drop;have hS:=hS.drop;have hq_: h.build t vars=(h,(Wd.zero,211)):=by unfold HS.build;rw [if_neg (by rw [hok];simp),if_pos hal_]
   rw [hq_];exact⟨_,_,rfl,hK,hS⟩
  ·have hal_: allS (HS.S h) vars=true:=by simpa using h8
   refine ah ha rfl (wp_skip (aa (wp_seq (ab (lin rfl (an (vs:=(tL t A c)) T46 rfl ha rfl (hS.blkL 1 rfl) rfl (ak rfl) rfl fun a ha=>?_))))));refine lin rfl (bi (vs:= [(0,(tv t A c))]) (cells:=(tL t A c)) T44.und T46 hS ha (ha.evp rfl) rfl rfl rfl rfl fun b9 a w hS ha=>?_);obtain⟨H9,hS,hle9,hb9⟩:=hS.give;have hr:=hr.mono hle9;have hr9: RowT H9 (some ⟨b9,0,none⟩) 1 [t]:=RowT.of_lit ([⟨t,A,c⟩]: List TV) hb9 (AllR.cons hr (AllR.nil _)) (by simp) rfl;have hk11:=c_tVars hS.inv.nil hr9 (show chkAll 4000 [t]=true from hok) (by rw [eg];omega) (isTm_vb hok);refine lin rfl (aw func67 rfl rfl (ha.evs rfl) ha rfl (hk11) ?_);rintro e w ⟨H10,A10,c10,en10,rfl,hR10,hc10⟩;refine⟨_,rfl,fun a ha=>?_⟩;have hS:=Step.frame (Lc:= []) hS hc10;have hr:=hr.mono hc10.le;refine Lm rfl ha fun a ha=>?_;refine lin rfl (af (v:=(.slice A10 ((varsN [t]).length) c10)) ha rfl rfl rfl fun a ha=>?_);refine lin rfl (af (v:=(iV 0)) ha rfl rfl rfl fun a ha=>?_);refine Ls rfl ha fun a ha=>?_;refine Ls rfl ha fun a ha=>?_;refine wpList_nil (aa (wp_seq (ab (Lm rfl ha fun a ha=>?_))));refine Lm rfl ha fun a ha=>?_;refine lin rfl (o_makeMapV (k:=3) hS ha rfl fun bm em12 a w hM hS ha=>?_);refine lin rfl (aD (vs:= [(0,(pB p)),(1,(.slice Av vars.length cv)),(2,(.map (some bm)))]) (cells:= [(pB p),(.slice Av vars.length cv),(.map (some bm)),(.slice none 0 0)]) T126 PL126 ha (ha.evp rfl) rfl rfl fun a ha=>?_);refine lin rfl (aJ (cs:= #[(pB p),(.slice Av vars.length cv),(.map (some bm)),(.slice none 0 0)]) hS ha rfl rfl rfl fun b13 a w hS ha=>?_);have hS:=hS.cons_none (en:=noEnt) rfl;refine Ls rfl ha fun a ha=>?_;refine wpList_nil (aa (wp_seq (wp_seq (ab (Lm rfl ha fun a ha=>?_)))));refine lin rfl (aG T22.und ha rfl rfl fun a ha=>?_);refine Lm rfl ha fun a ha=>?_;refine wpList_nil (aa (wp_block (aM (fun nn_ a w=> ∃(H15: PHeap),∃(k: Nat),∃(em: Ent),Le H10 H15∧nn_=(varsN [t]).length - k∧Has [] a 94 [(0,(pB p)),(2,(.slice Av vars.length cv)),(4,(pB b1)),(6,(pB b3)),(11,(pB b13)),(46,(.slice A10 ((varsN [t]).length) c10)),(47,(iV (((varsN [t]).length: Nat): Int))),(48,(iV ((k: Nat): Int)))]∧Step w0 H L w H15 (noEnt::(some b13,(.cells #[(pB p),(.slice Av vars.length cv),(.map (some bm)),(.slice none 0 0)] 126 (0,0)))::em::en10::(some b3,(.cells #[(iV 0),(iV 0),(.string (⟨#[]⟩)),(.bool false)] 34 (0,0)))::(some b1,(.cells (tA t A c) 46 (0,0)))::L)∧(MapV prog 3 em bm k (mapTo t k))∧(∀(j: Nat) (v: Int),j < k→(varsN [t])[j]? =some v→v < vars.length)∧(k≤(varsN [t]).length)) _ ⟨H10,0,em12,Le.refl _,rfl,ha.pk rfl,hS,hM,(fun j v h=>by omega),(by omega)⟩ ?_)));intro n15 a w hh;obtain⟨H15,k,em,hle15,hn15,ha,hS,hM,hlt,hk⟩:=hh;have hr:=hr.mono hle15;refine wp_seq (ab (lin rfl (aO (i:=((k: Nat): Int)) (j:=(((varsN [t]).length: Nat): Int)) ha rfl rfl rfl fun a ha=>?_)));refine wpList_nil (aa (wp_seq (aj (t:=49) ha rfl (fun h16 ha=>?_) (fun h16 ha=>?_))))
   ·refine ap ha rfl (wp_skip (aa (wp_seq (wp_block (wp_seq (ab ?_))))));obtain⟨b17,cap17,cur17,hv17,he17,hc17, -⟩:=hR10.at_ (j:=k) (by omega);have hA17:(A10: Option Addr)=some ⟨b17,0,none⟩:=by injection hv17
    obtain⟨x17,hx17⟩: ∃ x,(varsN [t])[k]? =some x:=⟨_,List.getElem?_eq_getElem (by first | omega |(simp;omega))⟩;have hc17:=hc17 0 (iV x17) (by omega) (bV hx17);refine lin rfl (aB (b:=b17) (o:=0) (j:=k) T22.und T3 hA17 ha rfl rfl (by omega) (by omega) rfl fun a ha=>?_);have hvb_:=hvbd_ _ (List.mem_of_getElem? hx17);refine lin rfl (ae (v:=(iV x17)) T3 rfl ha rfl (hS.blkL 3 (b:=b17) (o:=.cells cur17 3 (0,0)) (by rw [← he17];rfl)) hc17 rfl fun a ha=>?_);refine Ls rfl ha fun a ha=>?_;refine wpList_nil (aa (wp_seq (wp_seq (ab (Lm rfl ha fun a ha=>?_)))));refine Lm rfl ha fun a ha=>?_;refine lin rfl (aG T29.und ha rfl rfl fun a ha=>?_);refine lin rfl (cH (i:=x17) (j:=((vars.length: Nat): Int)) ha rfl rfl rfl fun a ha=>?_);refine wpList_nil (aa (aj (t:=55) ha rfl (fun h18 ha=>?_) (fun h18 ha=>?_)))
    ·refine ap ha rfl (wp_seq (ab (lin rfl (aD (vs:= []) (cells:= [(iV 0),(iV 0),(.string (⟨#[]⟩)),(.bool false)]) T34 PL34 ha (ha.evp rfl) rfl rfl fun a ha=>?_))));refine lin rfl (ao (cs':= #[(iV 0),(iV 0),(.string (⟨#[]⟩)),(.bool false)]) T34 hS (i:=4) rfl ha rfl rfl rfl rfl rfl rfl fun a w hS ha=>?_);refine Ls rfl ha fun a ha=>?_;refine wpList_nil (aa (wp_ret (ag (aA (ag (ag (aA (ag (retA1 (i:=4) (cs:= #[(iV 0),(iV 0),(.string (⟨#[]⟩)),(.bool false)]) rfl T34 rfl hS rfl ha rfl rfl rfl ?_)))))))));have hS:=hS.drop;have hS:=hS.drop;have hS:=hS.drop;have hS:=hS.drop;have hS:=hS.drop;have hS:=hS.drop;have hq_: h.build t vars=(h,(Wd.zero,1)):=by unfold HS.build;rw [if_neg (by rw [hok];simp),if_neg (by rw [hal_];simp),if_pos (anyle_some hx17 h18)]
     rw [hq_];exact⟨_,_,rfl,hK,hS⟩
    ·refine ah ha rfl (wp_skip (aa (wp_seq (ab (lin rfl (an (vs:=(tL t A c)) T46 rfl ha rfl (hS.blkL 5 rfl) rfl (ak rfl) rfl fun a ha=>?_))))));refine Lm rfl ha fun a ha=>?_;have hk20:=c_tTimes (v:=x17) hS.inv.nil hr hok;refine lin rfl (aw func68 rfl rfl (ha.evs rfl) ha rfl (hk20) ?_);rintro e w ⟨H19,rfl,hc19⟩;refine⟨_,rfl,fun a ha=>?_⟩;have hS:=hS.call hc19;refine Lm rfl ha fun a ha=>?_;refine lin rfl (af (v:=(iV (((timesN t x17): Nat): Int))) ha rfl rfl rfl fun a ha=>?_);refine lin rfl (af (v:=(iV 0)) ha rfl rfl rfl fun a ha=>?_);refine Ls rfl ha fun a ha=>?_;refine Ls rfl ha fun a ha=>?_;refine wpList_nil (aa (ab (Lm rfl ha fun a ha=>?_)));refine lin rfl (aI ha rfl rfl fun a ha=>?_);refine lin rfl (ac (f:=2) (o2:=2) T126 T124 rfl rfl rfl rfl ha rfl rfl fun a ha=>?_);refine lin rfl (ae (v:=(.map (some bm))) T124 rfl ha rfl (hS.blkL 1 rfl) rfl rfl fun a ha=>?_);refine Lm rfl ha fun a ha=>?_;refine Lm rfl ha fun a ha=>?_;refine lin rfl (cJ (i:=(((timesN t x17): Nat): Int)) (j:=1) ha rfl rfl rfl fun a ha=>?_);rw [show decide ((1: Int) <((timesN t x17: Nat): Int))=moreN t x17 from by unfold moreN;rw [decide_eq_decide];omega] at ha;have hS:=hS.front 2 rfl;refine lin rfl (o_mapUpdV T124.und T3.und hS hM ha rfl rfl rfl (by omega) (by simp only [maxLen];omega) fun em21 a w hM hS ha=>?_);refine wpList_nil (au (aa (ab (lin rfl (aE (i:=((k: Nat): Int)) (j:=1) ha rfl rfl rfl (by omega) fun a ha=>?_)))));refine Lm rfl ha fun a ha=>?_;refine wpList_nil (aa (?_));have hS:=hS.front 5 rfl;have hS:=hS.front 5 rfl;have hS:=hS.front 5 rfl;have hS:=hS.front 3 rfl;have hS:=hS.front 5 rfl;have hS:=hS.front 5 rfl;exact⟨(varsN [t]).length - (k+1),by omega,H19,(k+1),em21,(hle15.trans (hc19.le)),rfl,ha.pk rfl,hS,(by rw [mapTo_step hx17];exact hM),(fun j v h h2_=>by
       by_cases e_: j=k
       ·subst e_;rw [hx17] at h2_;obtain rfl:=Option.some.inj h2_;omega
       ·exact hlt j v (by omega) h2_),(by omega)⟩
   ·refine ah ha rfl (wp_exit (ar (ar (aF (aa (wp_seq ?_))))));obtain rfl: k=(varsN [t]).length:=by omega
    refine ab (Lm rfl ha fun a ha=>?_);refine lin rfl (an (vs:=(tL t A c)) T46 rfl ha rfl (hS.blkL 5 rfl) rfl (ak rfl) rfl fun a ha=>?_);have hS:=hS.front 2 rfl;have hS:=hS.front 1 rfl;have hS:=hS.front 2 rfl;have hS:=hS.front 5 rfl;have hS:=hS.front 5 rfl;have hS:=hS.front 5 rfl;have hk23:=c_bbuild (f:=(mapTo t (varsN [t]).length)) hM t _ _ h [] _ _ _ _ _ _ hr (bok_of hok (fun j v hj=>hlt j v (by have h_:=(List.getElem?_eq_some_iff.1 hj).1;omega) hj)) (Row.nil 3 1) (by simp;omega) (hv.at_ (H':=H) hS (bG [en10,(some b3,(.cells #[(iV 0),(iV 0),(.string (⟨#[]⟩)),(.bool false)] 34 (0,0))),(some b1,(.cells (tA t A c) 46 (0,0)))])) hK hO (hS.tail [en10,(some b3,(.cells #[(iV 0),(iV 0),(.string (⟨#[]⟩)),(.bool false)] 34 (0,0))),(some b1,(.cells (tA t A c) 46 (0,0)))]);refine lin rfl (aw func69 rfl rfl (ha.evs rfl) ha rfl (hk23) ?_);rintro e w ⟨H22,L22,en22,A22,c22,he22,hR22,hK22,hO22,hc22⟩;have hmo_:=cU (vars:=vars) (mo:=moreN t) t h [] (fun x hx=>bF (b0 hok x hx)) (MO.nil hO);have hbl_:=eT vars (moreN t) t (h, []);obtain⟨bb,hbb⟩: ∃ r_,bldS vars (moreN t) t (h, [])=r_:=⟨_,rfl⟩;rw [hbb] at he22 hR22 hK22 hO22 hc22 hmo_ hbl_;dsimp only at hbl_;rw [List.length_nil] at hbl_;subst he22;refine⟨_,rfl,fun a ha=>?_⟩;have hS:=hS.frameR [en10,(some b3,(.cells #[(iV 0),(iV 0),(.string (⟨#[]⟩)),(.bool false)] 34 (0,0))),(some b1,(.cells (tA t A c) 46 (0,0)))] hc22;refine Lm rfl ha fun a ha=>?_;refine lin rfl (af (v:=(.agg #[(iV (((wdO bb.2)).tag)),(iV (((wdO bb.2)).n)),(.string (((wdO bb.2)).s)),(.bool (((wdO bb.2)).one))])) ha rfl rfl rfl fun a ha=>?_);refine lin rfl (af (v:=(.bool bb.2.isSome)) ha rfl rfl rfl fun a ha=>?_);refine lin rfl (aC (cs:= #[(iV 0),(iV 0),(.string (⟨#[]⟩)),(.bool false)]) T34 hS ha rfl rfl fun b24 a w hS ha=>?_);refine lin rfl (ao (cs':= #[(iV (((wdO bb.2)).tag)),(iV (((wdO bb.2)).n)),(.string (((wdO bb.2)).s)),(.bool (((wdO bb.2)).one))]) T34 hS (i:=0) rfl ha rfl rfl rfl rfl rfl rfl fun a w hS ha=>?_);refine Ls rfl ha fun a ha=>?_;refine wpList_nil (aa (wp_seq (wp_seq (ab (Lm rfl ha fun a ha=>?_)))));refine lin rfl (aL ha rfl rfl fun a ha=>?_);refine wpList_nil (aa (av (t:=78) ha rfl (fun h26 ha=>?_) (fun h26 ha=>?_)))
    ·refine ap ha rfl (wp_seq (wp_seq (ab (Lm rfl ha fun a ha=>?_))));refine lin rfl (aI ha rfl rfl fun a ha=>?_);refine lin rfl (ac (f:=3) (o2:=3) T126 T22 rfl rfl rfl rfl ha rfl rfl fun a ha=>?_);refine lin rfl (ae (v:=(.slice A22 bb.1.2.length c22)) T22 rfl ha rfl (hS.blkL 4 rfl) rfl rfl fun a ha=>?_);refine lin rfl (aG T22.und ha rfl rfl fun a ha=>?_);refine Lm rfl ha fun a ha=>?_;refine wpList_nil (aa (wp_block (aM (fun nn_ a w=> ∃(H27: PHeap),∃(k2: Nat),∃(hh: HS),∃(LL: List Ent),Le H22 H27∧nn_=bb.1.2.length - k2∧Has [] a 94 [(0,(pB p)),(6,(pB b3)),(82,(.slice A22 bb.1.2.length c22)),(83,(iV ((bb.1.2.length: Nat): Int))),(84,(iV ((k2: Nat): Int)))]∧Step w0 H L w H27 ((some b24,(.cells #[(iV (((wdO bb.2)).tag)),(iV (((wdO bb.2)).n)),(.string (((wdO bb.2)).s)),(.bool (((wdO bb.2)).one))] 34 (0,0)))::en10::(some b3,(.cells #[(iV 0),(iV 0),(.string (⟨#[]⟩)),(.bool false)] 34 (0,0)))::(some b1,(.cells (tA t A c) 46 (0,0)))::(some b13,(.cells #[(pB p),(.slice Av vars.length cv),(.map (some bm)),(.slice A22 bb.1.2.length c22)] 126 (0,0)))::en22::em::LL)∧(HK p hh LL)∧(MO hh (bb.1.2.drop k2))∧((bb.1.2.drop k2).foldl (fun g a=>HS.clear g a.toNat) hh=bb.1.2.foldl (fun g a=>HS.clear g a.toNat) bb.1.1)∧(k2≤bb.1.2.length)) _ ⟨H22,0,bb.1.1,L22,Le.refl _,rfl,ha.pk rfl,hS,hK22,hmo_,rfl,(by omega)⟩ ?_)));intro n27 a w hh;obtain⟨H27,k2,hh,LL,hle27,hn27,ha,hS,hK2,hMO,hfo,hk2⟩:=hh;refine wp_seq (ab (lin rfl (aO (i:=((k2: Nat): Int)) (j:=((bb.1.2.length: Nat): Int)) ha rfl rfl rfl fun a ha=>?_)));refine wpList_nil (aa (wp_seq (aj (t:=85) ha rfl (fun h28 ha=>?_) (fun h28 ha=>?_))))
     ·refine ap ha rfl (wp_skip (aa (wp_seq (wp_block (wp_seq (ab ?_))))));obtain⟨b29,cap29,cur29,hv29,he29,hc29, -⟩:=hR22.at_ (j:=k2) (by omega);have hA29:(A22: Option Addr)=some ⟨b29,0,none⟩:=by injection hv29
      obtain⟨x29,hx29⟩: ∃ x,bb.1.2[k2]? =some x:=⟨_,List.getElem?_eq_getElem (by first | omega |(simp;omega))⟩;have hc29:=hc29 0 (iV x29) (by omega) (bV hx29);refine lin rfl (aB (b:=b29) (o:=0) (j:=k2) T22.und T3 hA29 ha rfl rfl (by omega) (by omega) rfl fun a ha=>?_);refine lin rfl (ae (v:=(iV x29)) T3 rfl ha rfl (hS.blkL 5 (b:=b29) (o:=.cells cur29 3 (0,0)) (by rw [← he29];rfl)) hc29 rfl fun a ha=>?_);refine Ls rfl ha fun a ha=>?_;refine wpList_nil (aa (ab (Lm rfl ha fun a ha=>?_)));refine Lm rfl ha fun a ha=>?_;obtain⟨ha0_,pb_,hpb_⟩:=hMO.at_ x29 (by rw [aK hx29];exact List.mem_cons_self);obtain⟨bs30,hbs30,hP30⟩:=hK2;have hbk_: ∃ bk_: BK,bs30[(x29).toNat]? =some (some bk_)∧bk_.2=pb_:=by
       rw [← hbs30,dI] at hpb_
       cases hq_: bs30[(x29).toNat]? with
       | none=>rw [hq_] at hpb_;cases hpb_
       | some o_ =>
        rw [hq_] at hpb_
        cases o_ with
        | none=>cases hpb_
        | some bk_=>exact ⟨bk_,rfl,by simpa using hpb_⟩
      obtain⟨bk_,hbj_,rfl⟩:=hbk_;have hfit_:=(hMO.ok.blk _ _ (cA hbs30 hbj_)).2;have hln_:(HS.S hh).length=bs30.length:=by rw [← hbs30,bN]
      have hu_:=HS.Ok.u hMO.ok;have hk31:=eI (a_:=(x29).toNat) (i:=x29) (b:=bk_) (hS.tail [(some b24,(.cells #[(iV (((wdO bb.2)).tag)),(iV (((wdO bb.2)).n)),(.string (((wdO bb.2)).s)),(.bool (((wdO bb.2)).one))] 34 (0,0))),en10,(some b3,(.cells #[(iV 0),(iV 0),(.string (⟨#[]⟩)),(.bool false)] 34 (0,0))),(some b1,(.cells (tA t A c) 46 (0,0))),(some b13,(.cells #[(pB p),(.slice Av vars.length cv),(.map (some bm)),(.slice A22 bb.1.2.length c22)] 126 (0,0))),en22,em]) hP30 (by omega) hbj_ (by omega) (by omega);refine lin rfl (aw func47 rfl rfl (ha.evs rfl) ha rfl (hk31) ?_);rintro e w ⟨L30,t30,rfl, -,hP230,hc⟩;refine⟨_,rfl,fun a ha=>?_⟩;have hS:=hS.frameR [(some b24,(.cells #[(iV (((wdO bb.2)).tag)),(iV (((wdO bb.2)).n)),(.string (((wdO bb.2)).s)),(.bool (((wdO bb.2)).one))] 34 (0,0))),en10,(some b3,(.cells #[(iV 0),(iV 0),(.string (⟨#[]⟩)),(.bool false)] 34 (0,0))),(some b1,(.cells (tA t A c) 46 (0,0))),(some b13,(.cells #[(pB p),(.slice Av vars.length cv),(.map (some bm)),(.slice A22 bb.1.2.length c22)] 126 (0,0))),en22,em] hc;have hK30:=HK.clear (b:=bk_) hbs30 hbj_ hP230;have hMO2_:=MO.clear (a:=x29) (by rw [← aK hx29];exact hMO);refine wpList_nil (au (aa (ab (lin rfl (aE (i:=((k2: Nat): Int)) (j:=1) ha rfl rfl rfl (by omega) fun a ha=>?_)))));refine Lm rfl ha fun a ha=>?_;refine wpList_nil (aa (?_));have hS:=hS.front 7 rfl;have hS:=hS.drop;have hS:=hS.front 7 rfl;have hS:=hS.drop;have hS:=hS.front 7 rfl;have hS:=hS.drop;exact⟨bb.1.2.length - (k2+1),by omega,H27,(k2+1),(HS.clear hh (x29).toNat),L30,(hle27),rfl,ha.pk rfl,hS,hK30,hMO2_,(by rw [← hfo,clear_step hx29]),(by omega)⟩
     ·refine ah ha rfl (wp_exit (ar (ar (aF (aa (wp_seq (ab (lin rfl (aD (vs:= []) (cells:= [(iV 0),(iV 0),(.string (⟨#[]⟩)),(.bool false)]) T34 PL34 ha (ha.evp rfl) rfl rfl fun a ha=>?_)))))))));refine lin rfl (ao (cs':= #[(iV 0),(iV 0),(.string (⟨#[]⟩)),(.bool false)]) T34 hS (i:=2) rfl ha rfl rfl rfl rfl rfl rfl fun a w hS ha=>?_);refine Ls rfl ha fun a ha=>?_;refine wpList_nil (aa (wp_ret (ag (retA1 (i:=2) (cs:= #[(iV 0),(iV 0),(.string (⟨#[]⟩)),(.bool false)]) rfl T34 rfl hS rfl ha rfl rfl rfl ?_))));have hS:=hS.drop;have hS:=hS.drop;have hS:=hS.drop;have hS:=hS.drop;have hS:=hS.drop;have hS:=hS.drop;have hS:=hS.drop;have han_:=anyle_none (vs:=varsN [t]) (n:=(vars.length: Int)) (fun j v hj=>hlt j v (by have h_:=(List.getElem?_eq_some_iff.1 hj).1;omega) hj);have hbn_: bb.2=none:=Option.not_isSome_iff_eq_none.1 (by simpa using h26);have hbe_: bb=(bb.1,none):=by rw [← hbn_]
      have hq_: h.build t vars=(hh,(Wd.zero,210)):=by
       unfold HS.build;rw [if_neg (by rw [hok];simp),if_neg (by rw [hal_];simp),if_neg (by rw [han_];simp),hbb,hbe_];dsimp only;rw [← hfo,List.drop_of_length_le (by omega)];rfl
      rw [hq_];exact⟨_,_,rfl,hK2,hS⟩
    ·refine ah ha rfl (wp_skip (aa (wp_seq (ab (lin rfl (an (vs:= [(iV (((wdO bb.2)).tag)),(iV (((wdO bb.2)).n)),(.string (((wdO bb.2)).s)),(.bool (((wdO bb.2)).one))]) T34 rfl ha rfl (hS.blkL 0 rfl) rfl (ak rfl) rfl fun a ha=>?_))))));refine lin rfl (ao (cs':= #[(iV (((wdO bb.2)).tag)),(iV (((wdO bb.2)).n)),(.string (((wdO bb.2)).s)),(.bool (((wdO bb.2)).one))]) T34 hS (i:=2) rfl ha rfl rfl rfl rfl rfl rfl fun a w hS ha=>?_);refine Ls rfl ha fun a ha=>?_;refine wpList_nil (aa (wp_ret (retA1 (i:=2) (cs:= #[(iV (((wdO bb.2)).tag)),(iV (((wdO bb.2)).n)),(.string (((wdO bb.2)).s)),(.bool (((wdO bb.2)).one))]) rfl T34 rfl hS rfl ha rfl rfl rfl ?_)));have hS:=hS.drop;have hS:=hS.drop;have hS:=hS.drop;have hS:=hS.drop;have hS:=hS.drop;have hS:=hS.drop;have hS:=hS.drop;have han_:=anyle_none (vs:=varsN [t]) (n:=(vars.length: Int)) (fun j v hj=>hlt j v (by have h_:=(List.getElem?_eq_some_iff.1 hj).1;omega) hj);obtain⟨y_,hy_⟩:=Option.isSome_iff_exists.1 (show bb.2.isSome=true by simpa using h26);have hbe_: bb=(bb.1,some y_):=by rw [← hy_]
     have hq_: h.build t vars=(bb.1.1,(y_,0)):=by
      unfold HS.build;rw [if_neg (by rw [hok];simp),if_neg (by rw [hal_];simp),if_neg (by rw [han_];simp),hbb,hbe_]
     rw [hq_,hy_];exact⟨_,_,rfl,hK22,hS⟩
end Go.Vk.Try
namespace Go.Vk.Try
open Go.RowKit
end Go.Vk.Try
namespace Go.Vk.Try
open Go.RowKit
end Go.Vk.Try
namespace Go.Vk.Try
open Go.RowKit
end Go.Vk.Try
namespace Go.Vk
open Go.RowKit
def runT (a b: Nat): List Bool:=List.replicate a true++List.replicate b false
theorem fh (a b: Nat):(runT a b).length=a+b:=by unfold runT;simp
theorem runT_free {a b j: Nat} (h: a≤j) (hj: j < a+b):(runT a b)[j]? =some false:=by
 unfold runT;rw [List.getElem?_append_right (by simpa using h),List.getElem?_replicate,if_pos (by simp;omega)]
theorem runT_taken {a b j: Nat} (h: j < a):(runT a b)[j]? =some true:=by
 unfold runT;rw [List.getElem?_append_left (by simpa using h),List.getElem?_replicate,if_pos h]
theorem findS_run {a b size: Nat} (h1: 1≤size) (h: size≤b): findS (runT a b) size=(a: Int):=by
 obtain⟨p,h2,h3⟩:=eA (tk:=runT a b) (size:=size) (q:=a) (by rw [fh];omega) (fun j h4 h5=>runT_free h4 (by omega)) ((runT a b).length+1) 0 (by omega) (by omega)
 rcases bH (runT a b) size with h4 |⟨p',h4,h5,h6⟩
 ·unfold findS at h4;omega
 ·have h7: p'=p:=by unfold findS at h4;omega
  subst h7;have h8: ¬ p' < a:=fun hc=>by
   have:=h6 p' (Nat.le_refl _) (by omega);rw [runT_taken hc] at this
   cases this
  rw [h4,show p'=a by omega]
theorem fill_run {a b n: Nat} (h: n≤b): fillP (runT a b) a n true=runT (a+n) (b - n):=by
 unfold fillP runT;rw [List.take_left' (by simp),List.drop_append,List.drop_of_length_le (by simp),List.nil_append,List.length_replicate,List.drop_replicate,List.replicate_append_replicate,show b - (a+n - a)=b - n by omega]
end Go.Vk
namespace Go.Vk.Try
open Go.RowKit
theorem c_sameTerms {w0: World} {H: PHeap} (hI: Inv w0 H []) {ta tb: Tm} {A A': Option Addr} {c c': Nat} (hr: RowT H A c ta.l) (hr': RowT H A' c' tb.l): Calls prog 22 #[(tv ta A c),(tv tb A' c')] w0 (Rs w0 H (.bool (eqT ta tb))):=by
 have hS:=Step.refl hI;refine enter [(tv ta A c),(tv tb A' c')] func22 rfl ntmps22 rfl fun a ha=>?_;refine wp_seq (ab (lin rfl (aJ (cs:=(tA ta A c)) hS ha rfl rfl rfl fun b1 a w hS ha=>?_)));refine lin rfl (aJ (cs:=(tA tb A' c')) hS ha rfl rfl rfl fun b3 a w hS ha=>?_);refine Ls rfl ha fun a ha=>?_;refine wpList_nil (aa (wp_seq (ab (lin rfl (an (vs:=(tL ta A c)) T46 rfl ha rfl (hS.blkL 1 rfl) rfl (ak rfl) rfl fun a ha=>?_)))));refine lin rfl (an (vs:=(tL tb A' c')) T46 rfl ha rfl (hS.blkL 0 rfl) rfl (ak rfl) rfl fun a ha=>?_);refine lin rfl (aw func44 rfl rfl (ha.evs rfl) ha rfl (c_Same ta tb _ _ _ _ _ _ hr hr' hS.inv.nil) ?_);rintro e w ⟨rfl,hc⟩;refine⟨_,rfl,fun a ha=>?_⟩;have hS:=hS.call hc;refine Ls rfl ha fun a ha=>?_;refine wpList_nil (aa (wp_ret (ret1 rfl ha rfl ?_)));refine⟨congrArg _ ?_,hS.plain.drop_all⟩;rfl
end Go.Vk.Try
namespace Go.Vk
open Go.RowKit
structure Ext (S S': PS): Prop where
 len: S'.length=S.length
 keep: ∀(j: Nat) (b: PB),S[j]? =some (some b)→S'[j]? =some (some b)
theorem Ext.refl (S: PS): Ext S S:=⟨rfl,fun _ _ h=>h⟩
theorem Ext.trans {S S' S'': PS} (h: Ext S S') (h': Ext S' S''): Ext S S'':=⟨h'.len.trans h.len,fun j b hj=>h'.keep j b (h.keep j b hj)⟩
theorem Ext.at_ {S S': PS} (h: Ext S S') {w: Wd} {b: PB} (hw: atS S w=some b): atS S' w=some b:=by
 obtain⟨h1,h2,h3,h4,h5⟩:=aH hw;exact(cI h1 (by rw [h.len];exact h2) h3 (h.keep _ _ h4)).trans (if_pos h5)
theorem atS_lit {S: PS} {w: Wd} (h: w.tag=1∨w.tag=2∨w.tag=3): atS S w=none:=by
 unfold atS atG
 split
 ·rfl
 ·split
  ·rename_i b hb
   rw [if_neg]
   cases b <;> simp only [PB.tag] <;> omega
  ·rfl
def Firm (S: PS) (w: Wd): Prop:=(w.tag=1∨w.tag=2∨w.tag=3)∨∃ b,atS S w=some b
theorem fol_ext {S S': PS} (h: Ext S S'): ∀(k: Nat) (w x: Wd),folS S k w=(x,true)→Firm S x→folS S' k w=(x,true)
 | 0,w,x,hf,_=>by simp [folS] at hf
 | k+1,w,x,hf,hx=>by
  unfold folS at hf ⊢
  cases ha: atS S w with
  | none =>
   rw [ha] at hf;obtain rfl: w=x:=congrArg Prod.fst hf
   rcases hx with hx |⟨b,hb⟩
   ·rw [atS_lit hx]
   ·rw [ha] at hb;cases hb
  | some b =>
   rw [ha] at hf;rw [h.at_ ha]
   match b,hf with
   | .var (y::ys) hk,hf=>exact fol_ext h k _ _ hf hx
   | .var [] hk,hf=>exact hf
   | .fn s l,hf=>exact hf
   | .vec l,hf=>exact hf
theorem fK {f g: Int→Wd→Int × Option Tm} (hfg: ∀ left w T r,f left w=(r,some T)→g left w=(r,some T)): ∀(ws: List Wd) (left r: Int) (Ts: List Tm),rdL f left ws=(r,some Ts)→rdL g left ws=(r,some Ts)
 | [],left,r,Ts,h=>h
 | w::ws,left,r,Ts,h=>by
  rw [rdL] at h ⊢;dsimp only at h ⊢
  cases hf: f left w with
  | mk r1 o =>
   rw [hf] at h
   cases o with
   | none=>cases h
   | some T =>
    rw [hfg _ _ _ _ hf];dsimp only at h ⊢
    cases hl: rdL f r1 ws with
    | mk r2 o2 =>
     rw [hl] at h
     cases o2 with
     | none=>simp at h
     | some Us =>
      rw [fK hfg ws _ _ _ hl];exact h
theorem f4 {S S': PS} (h: Ext S S'): ∀(d: Nat) (left: Int) (w: Wd) (T: Tm) (r: Int),rdS S d left w=(r,some T)→rdS S' d left w=(r,some T)
 | 0,left,w,T,r,hr=>by simp [rdS] at hr
 | d+1,left,w,T,r,hr=>by
  by_cases hs:(followS S w).2=false∨left - 1 < 0
  ·rw [fl (by rcases hs with h | h;exact .inl h;exact .inr (.inl h))] at hr;cases hr
  ·have hf:(followS S w).2=true:=by
    cases hh:(followS S w).2 with
    | true=>rfl
    | false=>exact absurd (.inl hh) hs
   have hl: 0≤left - 1:=Classical.byContradiction fun e=>hs (.inr (by omega));have firm: ∀(hx: Firm S (followS S w).1),followS S' w=followS S w:=by
    intro hx;have h1: folS S (S.length+1) w=((followS S w).1,true):=by
     rw [← hf];rfl
    have h2:=fol_ext h _ _ _ h1 hx
    show folS S' (S'.length+1) w=_
    rw [h.len,h2,← hf]
   by_cases h1:(followS S w).1.tag=1
   ·have he:=firm (.inl (.inl h1));rw [ec hf hl h1] at hr;rw [ec (by rw [he];exact hf) hl (by rw [he];exact h1),he];exact hr
   ·by_cases h2:(followS S w).1.tag=2
    ·have he:=firm (.inl (.inr (.inl h2)));rw [dl hf hl h1 h2] at hr;rw [dl (by rw [he];exact hf) hl (by rw [he];exact h1) (by rw [he];exact h2),he];exact hr
    ·by_cases h3:(followS S w).1.tag=3
     ·have he:=firm (.inl (.inr (.inr h3)));rw [d4 hf hl h1 h2 h3] at hr;rw [d4 (by rw [he];exact hf) hl (by rw [he];exact h1) (by rw [he];exact h2) (by rw [he];exact h3),he];exact hr
     ·rw [bW hf hl h1 h2 h3] at hr
      cases ha: atS S (followS S w).1 with
      | none=>rw [ha] at hr;cases hr
      | some b =>
       have he:=firm (.inr ⟨b,ha⟩);rw [bW (by rw [he];exact hf) hl (by rw [he];exact h1) (by rw [he];exact h2) (by rw [he];exact h3),he,h.at_ ha];rw [ha] at hr
       match b,hr with
       | .var to hk,hr=>exact hr
       | .fn s ws,hr =>
        dsimp only at hr ⊢
        cases hq: rdL (rdS S d) (left - 1) ws with
        | mk r2 o =>
         rw [hq] at hr
         cases o with
         | none=>simp at hr
         | some Ts=>rw [fK (fun left w T r hh=>f4 h d left w T r hh) ws _ _ _ hq];exact hr
       | .vec ws,hr =>
        dsimp only at hr ⊢
        cases hq: rdL (rdS S d) (left - 1) ws with
        | mk r2 o =>
         rw [hq] at hr
         cases o with
         | none=>simp at hr
         | some Ts=>rw [fK (fun left w T r hh=>f4 h d left w T r hh) ws _ _ _ hq];exact hr
def RdW (S: PS) (w: Wd) (T: Tm): Prop:= ∀(d: Nat) (left: Int),dep T≤d→(T.sz: Int)≤left→rdS S d left w=(left - T.sz,some T)
theorem RdW.ext {S S': PS} {w: Wd} {T: Tm} (h: RdW S w T) (he: Ext S S'): RdW S' w T:=fun d left h1 h2=>f4 he _ _ _ _ _ (h d left h1 h2)
def RdWs (S: PS): List Wd→List Tm→Prop
 | [], []=>True
 | w::ws,T::Ts=>RdW S w T∧RdWs S ws Ts
 | _,_=>False
theorem RdWs.ext {S S': PS} (he: Ext S S'): ∀ {ws: List Wd} {Ts: List Tm},RdWs S ws Ts→RdWs S' ws Ts
 | [], [],_=>trivial
 | w::ws,T::Ts,h=>⟨h.1.ext he,RdWs.ext he h.2⟩
 | [],_::_,h=>h.elim
 | _::_, [],h=>h.elim
theorem RdWs.read {S: PS} {d: Nat}: ∀ {ws: List Wd} {Ts: List Tm} (left: Int),RdWs S ws Ts→depL Ts≤d→(Tm.szL Ts: Int)≤left→rdL (rdS S d) left ws=(left - Tm.szL Ts,some Ts)
 | [], [],left,_,_,_=>by rw [rdL,Tm.szL];simp
 | w::ws,T::Ts,left,h,hd,hl=>by
  rw [depL] at hd;rw [Tm.szL] at hl ⊢;have h1:=h.1 d left (by omega) (by omega);have h2:=RdWs.read (d:=d) (left - T.sz) h.2 (by omega) (by omega);rw [rdL,h1];dsimp only;rw [h2];simp only [Option.map_some]
  congr 1
  omega
 | [],_::_,_,h,_,_=>h.elim
 | _::_, [],_,h,_,_=>h.elim
theorem dH (k n: Int) (s: ByteArray) (l: List Tm):(Tm.mk k n s l).sz=1+Tm.szL l:=by rw [Tm.sz]
theorem cF (k n: Int) (s: ByteArray) (l: List Tm): dep (.mk k n s l)=depL l+1:=by rw [dep]
theorem RdW.blk {S: PS} {w: Wd} {b: PB} {T: Tm} {ws: List Wd} {Ts: List Tm} (ha: atS S w=some b) (hr: RdWs S ws Ts) (hb:(∃ s,b=.fn s ws∧T=.mk 5 0 s Ts)∨(b=.vec ws∧T=.mk 6 0 ⟨#[]⟩ Ts)): RdW S w T:=by
 have hf: followS S w=(w,true):=by
  unfold followS folS;rw [ha]
  rcases hb with ⟨s,rfl,_⟩ |⟨rfl,_⟩ <;> rfl
 have htag: w.tag=b.tag:=(aH ha).2.2.2.2;have ht: 4 < w.tag:=by
  rw [htag]
  rcases hb with ⟨s,rfl,_⟩ |⟨rfl,_⟩ <;> simp [PB.tag]
 intro d left h1 h2;have hs: T.sz=1+Tm.szL Ts:=by rcases hb with ⟨s,_,rfl⟩ |⟨_,rfl⟩ <;> exact dH _ _ _ _
 have hdp: dep T=depL Ts+1:=by rcases hb with ⟨s,_,rfl⟩ |⟨_,rfl⟩ <;> exact cF _ _ _ _
 obtain⟨d',rfl⟩: ∃ d',d=d'+1:=⟨d - 1,by omega⟩;rw [bW (by rw [hf]) (by omega) (by rw [hf];show ¬ w.tag=1;omega) (by rw [hf];show ¬ w.tag=2;omega) (by rw [hf];show ¬ w.tag=3;omega),hf];dsimp only;rw [ha];have hl:=hr.read (d:=d') (left - 1) (by omega) (by omega)
 rcases hb with ⟨s,rfl,rfl⟩ |⟨rfl,rfl⟩
 ·dsimp only;rw [hl,hs];simp only [Option.map_some]
  congr 1
  omega
 ·dsimp only;rw [hl,hs];simp only [Option.map_some]
  congr 1
  omega
def VarW (S: PS) (w: Wd): Prop:= ∃ hk,atS S w=some (.var [] hk)
theorem VarW.ext {S S': PS} {w: Wd} (h: VarW S w) (he: Ext S S'): VarW S' w:=by
 obtain⟨hk,h⟩:=h;exact⟨hk,he.at_ h⟩
theorem VarW.sh {S: PS} {w: Wd} (h: VarW S w): VarW S (shW w):=by
 obtain⟨hk,h⟩:=h;exact⟨hk,h⟩
theorem VarW.read {S: PS} {w: Wd} (h: VarW S w): RdW S w (.mk 1 w.n ⟨#[]⟩ []):=by
 obtain⟨hk,ha⟩:=h;have hf: followS S w=(w,true):=by
  unfold followS folS;rw [ha]
 have ht: w.tag=4:=(aH ha).2.2.2.2;intro d left h1 h2;rw [cF] at h1;rw [dH] at h2 ⊢;rw [Tm.szL] at h2 ⊢;obtain⟨d',rfl⟩: ∃ d',d=d'+1:=⟨d - 1,by omega⟩;rw [bW (by rw [hf]) (by omega) (by rw [hf];show ¬ w.tag=1;omega) (by rw [hf];show ¬ w.tag=2;omega) (by rw [hf];show ¬ w.tag=3;omega),hf];dsimp only;rw [ha];rfl
theorem fx {S: PS} {w: Wd} {T: Tm} (hw:(w.tag=1∧T=.mk 2 w.n ⟨#[]⟩ [])∨(w.tag=2∧T=.mk 3 0 w.s [])∨(w.tag=3∧T=.mk 4 0 w.s [])): RdW S w T:=by
 have htg: w.tag=1∨w.tag=2∨w.tag=3:=by rcases hw with h | h | h <;> omega
 have hf: followS S w=(w,true):=by
  unfold followS folS;rw [atS_lit htg]
 have hs: T.sz=1∧dep T=1:=by rcases hw with ⟨_,rfl⟩ |⟨_,rfl⟩ |⟨_,rfl⟩ <;> exact⟨by rw [dH,Tm.szL],by rw [cF,depL]⟩
 intro d left h1 h2;obtain⟨d',rfl⟩: ∃ d',d=d'+1:=⟨d - 1,by omega⟩;rw [hs.1]
 rcases hw with ⟨h3,rfl⟩ |⟨h3,rfl⟩ |⟨h3,rfl⟩
 ·rw [ec (by rw [hf]) (by omega) (by rw [hf];exact h3),hf];rfl
 ·rw [dl (by rw [hf]) (by omega) (by rw [hf];show ¬ w.tag=1;omega) (by rw [hf];exact h3),hf];rfl
 ·rw [d4 (by rw [hf]) (by omega) (by rw [hf];show ¬ w.tag=1;omega) (by rw [hf];show ¬ w.tag=2;omega) (by rw [hf];exact h3),hf];rfl
section
variable (vars: List Wd)
mutual
def rbT: Tm→Tm
 | .mk k n s l =>
  if k=1 then .mk 1 (vars.getD n.toNat Wd.zero).n ⟨#[]⟩ []
  else if k=2 then .mk 2 n ⟨#[]⟩ []
  else if k=3 then .mk 3 0 s []
  else if k=4 then .mk 4 0 s []
  else if k=5 then .mk 5 0 s (rbL l)
  else .mk 6 0 ⟨#[]⟩ (rbL l)
def rbL: List Tm→List Tm
 | []=> []
 | t::ts=>rbT t::rbL ts
end
end
def era (e: Option Nat) (S: PS): PS:=
 match e with
 | none=>S
 | some j=>S.set j none
def EOk (e: Option Nat) (S: PS): Prop:= ∀ j,e=some j→∃ b,S[j]? =some (some b)
theorem era_len (e: Option Nat) (S: PS):(era e S).length=S.length:=by
 cases e with
 | none=>rfl
 | some j=>exact List.length_set
theorem era_at {e: Option Nat} {S: PS} {j: Nat} {b: PB} (h:(era e S)[j]? =some (some b)): S[j]? =some (some b)∧e≠some j:=by
 cases e with
 | none=>exact ⟨h,by simp⟩
 | some i =>
  by_cases hij: i=j
  ·subst hij;simp only [era,List.getElem?_set] at h;rw [if_pos trivial] at h
   split at h <;> cases h
  ·simp only [era] at h;rw [List.getElem?_set_ne hij] at h;exact⟨h,by simpa using hij⟩
theorem era_of {e: Option Nat} {S: PS} {j: Nat} {b: PB} (h: S[j]? =some (some b)) (he: e≠some j):(era e S)[j]? =some (some b):=by
 cases e with
 | none=>exact h
 | some i =>
  simp only [era];rw [List.getElem?_set_ne (by simpa using he)];exact h
theorem EOk.ext {e: Option Nat} {S S': PS} (h: EOk e S) (hx: Ext S S'): EOk e S':=fun j hj=>by
 obtain⟨b,hb⟩:=h j hj;exact⟨b,hx.keep _ _ hb⟩
theorem Ext.era {S S': PS} (h: Ext S S') (e: Option Nat): Ext (era e S) (era e S'):=
 ⟨by rw [era_len,era_len,h.len],fun j b hj=>by
  obtain⟨h1,h2⟩:=era_at hj;exact era_of (h.keep _ _ h1) h2⟩
theorem place_ext {h: HS} (hO: h.Ok) (b: PB): Ext h.S (h.place b).1.S:=by
 refine⟨?_,fun j c hj=>cB hO hj⟩;unfold HS.place;dsimp only
 split
 ·rfl
 ·exact List.length_set
theorem place_new {h: HS} (hO: h.Ok) {b: PB} (hb: b.ok) (hp: ¬(h.place b).2 < 0):(h.place b).1.S[(h.place b).2.toNat]? =some (some b)∧0≤(h.place b).2∧∀ c,h.S[(h.place b).2.toNat]?≠some (some c):=by
 have hp2:=hp;rw [bI] at hp2 ⊢
 rcases bH h.tk b.size with h1 |⟨q,h1,h2,h3⟩
 ·omega
 ·have hs:=hb.size;have hl: h.tk.length=h.S.length:=hO.ltk;refine⟨?_,by omega,fun c hc=>?_⟩
  ·unfold HS.place;dsimp only;rw [if_neg hp2]
   show (List.set _ _ _)[_]? =_
   rw [List.getElem?_set,if_pos rfl,if_pos (by rw [h1];omega)]
  ·rw [h1,Int.toNat_natCast] at hc;have h4:=(hO.tkn q).2 ⟨q,c,hc,Nat.le_refl _,by have:=(hO.blk q c hc).1.size;omega⟩;rw [h3 q (Nat.le_refl _) (by omega)] at h4
   cases h4
theorem VarW.word {S: PS} {w: Wd} (h: VarW S w): wordS S w=true:=by
 obtain⟨hk,h⟩:=h;have ht: w.tag=4:=(aH h).2.2.2.2;unfold wordS;rw [if_neg (by omega),if_neg (by omega),if_neg (by omega),h];unfold refB;rw [ht];rfl
theorem blk_word {S: PS} {w: Wd} {b: PB} (h: atS S w=some b): wordS S w=true:=by
 have ht:=(aH h).2.2.2.2;have h4: w.tag=4∨w.tag=5∨w.tag=6:=by rw [ht];cases b <;> simp [PB.tag]
 unfold wordS;rw [if_neg (by omega),if_neg (by omega),if_neg (by omega),h];unfold refB
 rcases h4 with h4 | h4 | h4 <;> rw [h4] <;> rfl
theorem nodeR_int {t: Tm} (h: nodeR t=true) (hk: t.kind=2): -2147483647≤t.n∧t.n≤2147483647:=by
 unfold nodeR at h;rw [if_neg (by omega),if_pos hk] at h;simp only [Bool.and_eq_true,decide_eq_true_eq] at h;exact h.1.1
theorem nodeR_str {t: Tm} (h: nodeR t=true) (hk: t.kind=4):(t.s.size: Int)≤255:=by
 unfold nodeR at h;rw [if_neg (by omega),if_neg (by omega),if_neg (by omega),if_pos hk] at h;simp only [Bool.and_eq_true,decide_eq_true_eq] at h;exact h.1.2
theorem d8 (n: Int) (s: ByteArray) (l: List Tm): nodeR (.mk 3 n s l)=((decide (n=0)&&nameB s)&&decide (((l.length: Nat): Int)=0)):=rfl
theorem nodeR_atom {t: Tm} (h: nodeR t=true) (hk: t.kind=3): nmB t.s=true:=by
 cases t with
 | mk k n s l =>
  have hk: k=3:=hk;subst hk;rw [d8,Bool.and_eq_true,Bool.and_eq_true] at h
  show nmB s=true
  unfold nmB;rw [du];refine f8 (by simp [Tm.sz,Tm.szL]) (by simp [dep,depL]) ?_;rw [bQ,d8,h.1.2];rfl
structure Made (S: PS) (t: Tm) (w: Wd) (T: Tm): Prop where
 rd: RdW S w T
 word: wordS S w=true
 tag: t.kind=1∨¬ w.tag=4
mutual
theorem bldS_read {vars: List Wd} {mo: Int→Bool} {e: Option Nat}: ∀(t: Tm) (h: HS) (mk: List Int) (w: Wd),MO h mk→EOk e h.S→(∀ x ∈ nds t,nodeR x=true∧(x.kind=1→VarW (era e h.S) (vars.getD x.n.toNat Wd.zero)))→(bldS vars mo t (h,mk)).2=some w→Made (era e (bldS vars mo t (h,mk)).1.1.S) t w (rbT vars t)∧Ext h.S (bldS vars mo t (h,mk)).1.1.S
 | .mk k n s l,h,mk,w,hm,hE,hn,hw=>by
  have hl:=bldL_read (vars:=vars) (mo:=mo) (e:=e) l h mk;have hmo:=d5 (vars:=vars) (mo:=mo) l h mk (fun x hx=>bF (hn x (by rw [nds];exact List.mem_cons_of_mem _ hx)).1) hm;have hnd: nodeR (.mk k n s l)=true:=(hn (.mk k n s l) (by rw [nds];exact List.mem_cons_self)).1;rw [rbT]
  by_cases h1: k=1
  ·rw [dq h1] at hw ⊢;rw [if_pos h1];have hv:=(hn (.mk k n s l) (by rw [nds];exact List.mem_cons_self)).2 h1;have hv: VarW (era e h.S) (vars.getD n.toNat Wd.zero):=hv;dsimp only at hw ⊢;obtain rfl:=Option.some.inj hw;refine⟨?_,Ext.refl _⟩
   split
   ·exact⟨hv.sh.read,hv.sh.word,.inl h1⟩
   ·exact⟨hv.read,hv.word,.inl h1⟩
  ·by_cases h2: k=2
   ·rw [ed h1 h2] at hw ⊢;rw [if_neg h1,if_pos h2];obtain rfl:=Option.some.inj hw;have hb:=nodeR_int hnd h2;have hb: -2147483647≤n∧n≤2147483647:=hb;refine⟨⟨fx (.inl ⟨rfl,rfl⟩),?_,.inr (by show ¬(1: Int)=4;omega)⟩,Ext.refl _⟩;unfold wordS;rw [if_pos rfl];simp;omega
   ·by_cases h3: k=3
    ·rw [dy h1 h2 h3] at hw ⊢;rw [if_neg h1,if_neg h2,if_pos h3];obtain rfl:=Option.some.inj hw;have hb:=nodeR_atom hnd h3;have hb: nmB s=true:=hb;refine⟨⟨fx (.inr (.inl ⟨rfl,rfl⟩)),?_,.inr (by show ¬(2: Int)=4;omega)⟩,Ext.refl _⟩;unfold wordS;rw [if_neg (by show ¬(2: Int)=1;omega),if_pos rfl,hb];rfl
    ·by_cases h4: k=4
     ·rw [ef h1 h2 h3 h4] at hw ⊢;rw [if_neg h1,if_neg h2,if_neg h3,if_pos h4];obtain rfl:=Option.some.inj hw;have hb:=nodeR_str hnd h4;have hb:(s.size: Int)≤255:=hb;refine⟨⟨fx (.inr (.inr ⟨rfl,rfl⟩)),?_,.inr (by show ¬(3: Int)=4;omega)⟩,Ext.refl _⟩;unfold wordS;rw [if_neg (by show ¬(3: Int)=1;omega),if_neg (by show ¬(3: Int)=2;omega),if_pos rfl];simp;omega
     ·rw [if_neg h1,if_neg h2,if_neg h3,if_neg h4]
      cases hq: bldL vars mo l (h,mk) with
      | mk st' o =>
       cases o with
       | none=>rw [dB h1 h2 h3 h4 hq] at hw;cases hw
       | some ws =>
        rw [hq] at hmo;obtain⟨hr,he⟩:=hl ws hm hE (fun x hx=>hn x (by rw [nds];exact List.mem_cons_of_mem _ hx)) (by rw [hq]);rw [hq] at hr he;have hwl: ws.length≤64:=by rw [hmo.2 ws rfl];exact bF hnd
        have hmo1: MO st'.1 st'.2:=hmo.1;obtain⟨b,hb⟩: ∃ b,(if k=5 then PB.fn s ws else PB.vec ws)=b:=⟨_,rfl⟩;obtain⟨tg,htg⟩: ∃ tg,(if k=5 then (5: Int) else 6)=tg:=⟨_,rfl⟩;have hbo: b.ok:=by rw [← hb];split <;> exact hwl
        have hbt: b.tag=tg:=by rw [← hb,← htg];split <;> rfl
        have htg4: ¬ tg=4:=by rw [← htg];split <;> omega
        rw [ce h1 h2 h3 h4 hq hb htg] at hw ⊢
        by_cases hp:(st'.1.place b).2 < 0
        ·rw [if_pos hp] at hw;cases hw
        ·rw [if_neg hp] at hw ⊢;obtain rfl:=Option.some.inj hw;have hx:=place_ext hmo1.ok b;refine⟨?_,he.trans hx⟩;obtain⟨hS,h0,hnew⟩:=place_new hmo1.ok hbo hp;have hne: e≠some (st'.1.place b).2.toNat:=by
          intro hh;obtain⟨c,hc⟩:=(hE.ext he) _ hh;exact hnew c hc
         have hS2:=era_of hS hne;have hlt:=(List.getElem?_eq_some_iff.1 hS2).1;have ha: atS (era e (st'.1.place b).1.S) ⟨tg,(st'.1.place b).2,⟨#[]⟩,true⟩ =some b:=(cI h0 (by show (st'.1.place b).2 < _;omega) rfl hS2).trans (if_pos hbt.symm);refine⟨RdW.blk ha (hr.ext (hx.era e)) ?_,blk_word ha,.inr htg4⟩
         by_cases h5: k=5
         ·rw [if_pos h5] at hb ⊢;exact .inl ⟨s,hb.symm,rfl⟩
         ·rw [if_neg h5] at hb ⊢;exact .inr ⟨hb.symm,rfl⟩
theorem bldL_read {vars: List Wd} {mo: Int→Bool} {e: Option Nat}: ∀(ts: List Tm) (h: HS) (mk: List Int) (ws: List Wd),MO h mk→EOk e h.S→(∀ x ∈ ndsL ts,nodeR x=true∧(x.kind=1→VarW (era e h.S) (vars.getD x.n.toNat Wd.zero)))→(bldL vars mo ts (h,mk)).2=some ws→RdWs (era e (bldL vars mo ts (h,mk)).1.1.S) ws (rbL vars ts)∧Ext h.S (bldL vars mo ts (h,mk)).1.1.S
 | [],h,mk,ws,hm,hE,hn,hw=>by
  rw [bldL] at hw ⊢;obtain rfl:=Option.some.inj hw;exact⟨by rw [rbL];trivial,Ext.refl _⟩
 | t::ts,h,mk,ws,hm,hE,hn,hw=>by
  have h1:=bldS_read (vars:=vars) (mo:=mo) (e:=e) t h mk;have hmo:=cU (vars:=vars) (mo:=mo) t h mk (fun x hx=>bF (hn x (by rw [ndsL];exact List.mem_append_left _ hx)).1) hm
  cases hq: bldS vars mo t (h,mk) with
  | mk st' o =>
   cases o with
   | none=>rw [ba,hq] at hw;cases hw
   | some w =>
    rw [hq] at hmo;obtain⟨hr,he⟩:=h1 w hm hE (fun x hx=>hn x (by rw [ndsL];exact List.mem_append_left _ hx)) (by rw [hq]);rw [hq] at hr he;have h2:=bldL_read (vars:=vars) (mo:=mo) (e:=e) ts st'.1 st'.2
    cases hq2: bldL vars mo ts st' with
    | mk st'' o2 =>
     cases o2 with
     | none=>rw [ba,hq] at hw;dsimp only at hw;rw [hq2] at hw;cases hw
     | some us =>
      have e_: bldL vars mo (t::ts) (h,mk)=(st'',some (w::us)):=by rw [ba,hq];dsimp only;rw [hq2]
      rw [e_] at hw ⊢;obtain rfl:=Option.some.inj hw;obtain⟨hr2,he2⟩:=h2 us hmo (hE.ext he) (fun x hx=>by
       have h3:=hn x (by rw [ndsL];exact List.mem_append_right _ hx);exact⟨h3.1,fun hk=>(h3.2 hk).ext (he.era e)⟩) (by rw [show (st'.1,st'.2)=st' from rfl,hq2])
      rw [show (st'.1,st'.2)=st' from rfl,hq2] at hr2 he2;exact⟨by rw [rbL];exact⟨hr.rd.ext (he2.era e),hr2⟩,he.trans he2⟩
end
mutual
theorem rbT_sz (vars: List Wd): ∀ t: Tm,(rbT vars t).sz≤t.sz∧dep (rbT vars t)≤dep t
 | .mk k n s l=>by
  have h:=rbL_sz vars l;rw [rbT,dH,cF]
  split
  ·rw [dH,cF,Tm.szL,depL];omega
  ·split
   ·rw [dH,cF,Tm.szL,depL];omega
   ·split
    ·rw [dH,cF,Tm.szL,depL];omega
    ·split
     ·rw [dH,cF,Tm.szL,depL];omega
     ·split
      ·rw [dH,cF];omega
      ·rw [dH,cF];omega
theorem rbL_sz (vars: List Wd): ∀ ts: List Tm,Tm.szL (rbL vars ts)≤Tm.szL ts∧depL (rbL vars ts)≤depL ts
 | []=>by rw [rbL];exact⟨Nat.le_refl _,Nat.le_refl _⟩
 | t::ts=>by
  have h1:=rbT_sz vars t;have h2:=rbL_sz vars ts;rw [rbL,Tm.szL,Tm.szL,depL,depL];omega
end
theorem RdW.whole {S: PS} {w: Wd} {T: Tm} (h: RdW S w T) (hw: wordS S w=true) (hs: T.sz≤4000) (hd: dep T≤600): readS S w=(T,0):=by
 unfold readS;rw [if_neg (by rw [hw];simp),h 600 4000 hd (by omega)]
end Go.Vk
namespace Go.Vk
theorem var_run {h: HS} {a b: Nat} (htk: h.tk=runT a b) (hb: 1≤b): h.var=(⟨h.S.set a (some (.var [] [])),runT (a+1) (b - 1),h.u+1⟩,(⟨4,(a: Int),⟨#[]⟩,true⟩,0)):=by
 have hf: findS h.tk (PB.var [] []).size=(a: Int):=by rw [htk];exact findS_run (by simp only [PB.size];omega) (by simp only [PB.size];omega)
 unfold HS.var HS.place refW;dsimp only;rw [hf,if_neg (by omega)];dsimp only;rw [if_neg (by omega),Int.toNat_natCast,htk];simp only [PB.size];rw [fill_run hb];rfl
theorem at_var {S: PS} {i: Int} {to: List Wd} {hk: List Int} (h0: 0≤i) (h: S[i.toNat]? =some (some (.var to hk))) (o: Bool): atS S ⟨4,i,⟨#[]⟩,o⟩ =some (.var to hk):=by
 have hl:=(List.getElem?_eq_some_iff.1 h).1;exact(cI h0 (by show i < S.length;omega) rfl h).trans (if_pos rfl)
mutual
theorem varR_keep {v: Int}: ∀(t: Tm) (out: List Int),v ∈ out→v ∈ varR t out
 | .mk k n s l,out,h=>by
  rw [varR];refine di l _ ?_
  split
  ·exact List.mem_append_left _ h
  ·exact h
theorem di {v: Int}: ∀(ts: List Tm) (out: List Int),v ∈ out→v ∈ varRL ts out
 | [],out,h=>by rw [varRL];exact h
 | t::ts,out,h=>by rw [varRL];exact di ts _ (varR_keep t out h)
end
mutual
theorem varR_in {x: Tm} (hk: x.kind=1): ∀(t: Tm) (out: List Int),x ∈ nds t→x.n ∈ varR t out
 | .mk k n s l,out,h=>by
  rw [nds] at h;rw [varR]
  rcases List.mem_cons.1 h with rfl | h
  ·refine di l _ ?_;have hk: k=1:=hk;subst hk
   show n ∈ _
   cases hc: out.contains n with
   | true =>
    rw [if_neg (by simp)];simpa using hc
   | false=>rw [if_pos (by simp)];exact List.mem_append_right _ List.mem_cons_self
  ·exact fB hk l _ h
theorem fB {x: Tm} (hk: x.kind=1): ∀(ts: List Tm) (out: List Int),x ∈ ndsL ts→x.n ∈ varRL ts out
 | [],out,h=>by rw [ndsL] at h;cases h
 | t::ts,out,h=>by
  rw [ndsL] at h;rw [varRL]
  rcases List.mem_append.1 h with h | h
  ·exact di ts _ (varR_in hk t out h)
  ·exact fB hk ts _ h
end
theorem vars_max {t: Tm} {n: Int} (h: ¬(0 <(varRL [t] []).length∧n≤maxI (varRL [t] []))): ∀ x ∈ nds t,x.kind=1→x.n < n:=by
 intro x hx hk;have hm: x.n ∈ varRL [t] []:=fB hk [t] [] (by rw [dV];exact hx);have h1:=maxI_ge hm;have h2: 0 <(varRL [t] []).length:=List.length_pos_of_mem hm;omega
theorem eo {l gs: List Int} {k: Nat} {g: Int} (h: gs[k]? =some g): addG l (gs.drop k)=addG (if l.contains g then l else l++ [g]) (gs.drop (k+1)):=by
 rw [aK h,addG]
end Go.Vk
namespace Go.Vk.Try
open Go.RowKit
end Go.Vk.Try
namespace Go.Vk
section
variable (B: List Tm)
mutual
def apT: Tm→Tm
 | .mk k n s l=>if k=1 then B.getD n.toNat Tm.zero else .mk k n s (apL l)
def apL: List Tm→List Tm
 | []=> []
 | t::ts=>apT t::apL ts
end
end
def VT (u: Tm): Prop:= ∃ j: Int,u=.mk 1 j ⟨#[]⟩ []∧0≤j∧j < 100000
theorem VT.sz {u: Tm} (h: VT u): u.sz=1:=by obtain⟨j,rfl,_⟩:=h;rw [Tm.sz,Tm.szL]
theorem VT.dep_ {u: Tm} (h: VT u): dep u=1:=by obtain⟨j,rfl,_⟩:=h;rw [dep,depL]
theorem VT.str {u: Tm} (h: VT u): strB u=true:=by obtain⟨j,rfl,_⟩:=h;rfl
theorem VT.free {u: Tm} (h: VT u): freeB u=false:=by obtain⟨j,rfl,_⟩:=h;rfl
theorem VT.is_ {u: Tm} (h: VT u): isR u=true:=by
 obtain⟨j,rfl,h0,h1⟩:=h;have h2:=vr_ok (n:=100000) (i:=j) h0 (by omega) (by omega);exact fe h2
theorem VT.at_ {B: List Tm} (h: ∀ u ∈ B,VT u) {k: Nat} {u: Tm} (hk: B[k]? =some u): VT u:=h u (List.mem_of_getElem? hk)
theorem apT_var {B: List Tm} {t: Tm} (h: t.kind=1): apT B t=B.getD t.n.toNat Tm.zero:=by
 cases t with
 | mk k n s l =>
  have h: k=1:=h;rw [apT,if_pos h];rfl
theorem apT_not {B: List Tm} {t: Tm} (h: ¬ t.kind=1): apT B t=.mk t.kind t.n t.s (apL B t.l):=by
 cases t with
 | mk k n s l =>
  have h: ¬ k=1:=h;rw [apT,if_neg h];rfl
theorem fJ (B: List Tm): ∀ ts: List Tm,apL B ts=ts.map (apT B)
 | []=>by rw [apL];rfl
 | t::ts=>by rw [apL,fJ B ts];rfl
mutual
def celT: Tm→Nat
 | .mk k n s l=>(if k=5∨k=6 then 1+l.length else 0)+celL l
def celL: List Tm→Nat
 | []=>0
 | t::ts=>celT t+celL ts
end
theorem celT_eq (t: Tm): celT t=(if t.kind=5∨t.kind=6 then 1+t.l.length else 0)+celL t.l:=by cases t;rw [celT];rfl
theorem dA: ∀ {ts: List Tm} {k: Nat} {u: Tm},ts[k]? =some u→celL (ts.take (k+1))=celL (ts.take k)+celT u
 | [],k,u,h=>by simp at h
 | t::ts,0,u,h=>by
  obtain rfl: t=u:=by simpa using h
  simp only [List.take_succ_cons,List.take_zero,celL];omega
 | t::ts,k+1,u,h=>by
  have:=dA (ts:=ts) (k:=k) (u:=u) (by simpa using h);simp only [List.take_succ_cons,celL] at *;omega
theorem dw: ∀(ts: List Tm) (k: Nat),celL (ts.take k)≤celL ts
 | [],k=>by rw [List.take_nil];exact Nat.le_refl _
 | t::ts,0=>by rw [List.take_zero,celL];exact Nat.zero_le _
 | t::ts,k+1=>by
  have:=dw ts k;rw [List.take_succ_cons,celL,celL];omega
mutual
theorem celT_le: ∀ t: Tm,nodesR t=true→celT t+1≤2 * t.sz
 | .mk k n s l,h=>by
  rw [nodesR,Bool.and_eq_true] at h;have h1:=celL_le l h.2;rw [celT,Tm.sz]
  split <;> omega
theorem celL_le: ∀ ts: List Tm,nodesRL ts=true→celL ts+ts.length≤2 * Tm.szL ts
 | [],_=>by rw [celL,Tm.szL];simp
 | t::ts,h=>by
  rw [nodesRL,Bool.and_eq_true] at h;have h1:=celT_le t h.1;have h2:=celL_le ts h.2;rw [celL,Tm.szL,List.length_cons];omega
end
theorem nodeR_k2 (n: Int) (s: ByteArray) (l: List Tm): nodeR (.mk 2 n s l)=(((decide ((-2147483647)≤n)&&decide (n≤2147483647))&&decide (s=⟨#[]⟩))&&decide (((l.length: Nat): Int)=0)):=rfl
theorem nodeR_k4 (n: Int) (s: ByteArray) (l: List Tm): nodeR (.mk 4 n s l)=((decide (n=0)&&decide (((s.size: Nat): Int)≤255))&&decide (((l.length: Nat): Int)=0)):=rfl
theorem nodeR_k5 (n: Int) (s: ByteArray) (l: List Tm): nodeR (.mk 5 n s l)=(((decide (n=0)&&nameB s)&&decide (1≤((l.length: Nat): Int)))&&decide (((l.length: Nat): Int)≤16)):=rfl
theorem nodeR_k6 (n: Int) (s: ByteArray) (l: List Tm): nodeR (.mk 6 n s l)=((decide (n=0)&&decide (s=⟨#[]⟩))&&decide (((l.length: Nat): Int)≤64)):=rfl
mutual
theorem ap_rb {m: Nat} {B: List Tm} {ws: List Wd} (hB: ∀ i,i < m→B.getD i Tm.zero=.mk 1 (ws.getD i Wd.zero).n ⟨#[]⟩ []): ∀ t: Tm,(∀ x ∈ nds t,nodeR x=true∧(x.kind=1→0≤x.n∧x.n < m))→apT B t=rbT ws t
 | .mk k n s l,h=>by
  have hs:=h (.mk k n s l) (by rw [nds];exact List.mem_cons_self);have hk:=dS hs.1;have hk: 1≤k∧k≤6:=hk;have hl:=ap_rbL hB l (fun x hx=>h x (by rw [nds];exact List.mem_cons_of_mem _ hx));rw [apT,rbT]
  by_cases h1: k=1
  ·have h2: 0≤n∧n < m:=hs.2 h1;rw [if_pos h1,if_pos h1,hB _ (by omega)]
  ·rw [if_neg h1,if_neg h1];have hn:=hs.1
   by_cases h2: k=2
   ·subst h2;rw [nodeR_k2] at hn;simp only [Bool.and_eq_true,decide_eq_true_eq] at hn;obtain⟨⟨_,rfl⟩,h4⟩:=hn;obtain rfl:=List.eq_nil_of_length_eq_zero (l:=l) (by omega);rw [if_pos rfl,apL]
   ·rw [if_neg h2]
    by_cases h3: k=3
    ·subst h3;rw [d8] at hn;simp only [Bool.and_eq_true,decide_eq_true_eq] at hn;obtain⟨⟨rfl,_⟩,h4⟩:=hn;obtain rfl:=List.eq_nil_of_length_eq_zero (l:=l) (by omega);rw [if_pos rfl,apL]
    ·rw [if_neg h3]
     by_cases h4: k=4
     ·subst h4;rw [nodeR_k4] at hn;simp only [Bool.and_eq_true,decide_eq_true_eq] at hn;obtain⟨⟨rfl,_⟩,h4⟩:=hn;obtain rfl:=List.eq_nil_of_length_eq_zero (l:=l) (by omega);rw [if_pos rfl,apL]
     ·rw [if_neg h4]
      by_cases h5: k=5
      ·subst h5;rw [nodeR_k5] at hn;simp only [Bool.and_eq_true,decide_eq_true_eq] at hn;obtain⟨⟨⟨rfl,_⟩,_⟩,_⟩:=hn;rw [if_pos rfl,hl]
      ·rw [if_neg h5];obtain rfl: k=6:=by omega
       rw [nodeR_k6] at hn;simp only [Bool.and_eq_true,decide_eq_true_eq] at hn;obtain⟨⟨rfl,rfl⟩,_⟩:=hn;rw [hl]
theorem ap_rbL {m: Nat} {B: List Tm} {ws: List Wd} (hB: ∀ i,i < m→B.getD i Tm.zero=.mk 1 (ws.getD i Wd.zero).n ⟨#[]⟩ []): ∀ ts: List Tm,(∀ x ∈ ndsL ts,nodeR x=true∧(x.kind=1→0≤x.n∧x.n < m))→apL B ts=rbL ws ts
 | [],_=>by rw [apL,rbL]
 | t::ts,h=>by rw [apL,rbL,ap_rb hB t (fun x hx=>h x (by rw [ndsL];exact List.mem_append_left _ hx)),ap_rbL hB ts (fun x hx=>h x (by rw [ndsL];exact List.mem_append_right _ hx))]
end
def vwL (k: Nat): List Wd:=(List.range k).map fun(j: Nat)=>⟨4,(j: Int),⟨#[]⟩,true⟩
def vtL (k: Nat): List Tm:=(List.range k).map fun(j: Nat)=>.mk 1 (j: Int) ⟨#[]⟩ []
theorem apL_take {B: List Tm} {ts: List Tm} {k: Nat} {u: Tm} (h: ts[k]? =some u): apL B (ts.take (k+1))=apL B (ts.take k)++ [apT B u]:=by
 rw [fJ,fJ,List.take_add_one,h,List.map_append];rfl
theorem vtL_VT {k: Nat} (hk: k≤100000): ∀ u ∈ vtL k,VT u:=by
 intro u hu;unfold vtL at hu;obtain⟨j,hj,rfl⟩:=List.mem_map.1 hu;have:=List.mem_range.1 hj;exact⟨j,rfl,by omega,by omega⟩
theorem place_run {h: HS} {a b: Nat} (htk: h.tk=runT a b) (c: PB) (h1: 1≤c.size) (h2: c.size≤b): h.place c=(⟨h.S.set a (some c),runT (a+c.size) (b - c.size),h.u+c.size⟩,(a: Int)):=by
 have hf: findS h.tk c.size=(a: Int):=by rw [htk];exact findS_run h1 h2
 unfold HS.place;dsimp only;rw [hf,if_neg (by omega),Int.toNat_natCast,htk,fill_run h2]
theorem place_full {h: HS} {a b: Nat} (htk: h.tk=runT a b) (c: PB) (h1: 1≤c.size) (h2: b < c.size):(h.place c).2 < 0∧(h.place c).1=h:=by
 have hf: findS h.tk c.size= -1:=by
  rw [htk]
  rcases bH (runT a b) c.size with h3 |⟨p,h3,h4,h5⟩
  ·exact h3
  ·exfalso
   rw [fh] at h4;have h6: ¬ p < a:=fun hc=>by
    have:=h5 p (Nat.le_refl _) (by omega);rw [runT_taken hc] at this
    cases this
   omega
 unfold HS.place;dsimp only;rw [hf,if_pos (by omega)];exact⟨by show (-1: Int) < 0;omega,rfl⟩
theorem var_full {h: HS} {a: Nat} (htk: h.tk=runT a 0): h.var=(h,(Wd.zero,210)):=by
 obtain⟨h1,h2⟩:=place_full htk (.var [] []) (by simp [PB.size]) (by simp [PB.size]);unfold HS.var refW;dsimp only;rw [if_pos h1,h2]
theorem used_run {h: HS} (hO: h.Ok) {a b: Nat} (htk: h.tk=runT a b): h.u=(a: Int):=by
 rw [hO.cnt,htk];unfold runT;rw [List.count_append,List.count_replicate,List.count_replicate];simp
mutual
theorem bldS_run {vars: List Wd} {mo: Int→Bool}: ∀(t: Tm) (h: HS) (mk: List Int) (a b: Nat),MO h mk→h.tk=runT a b→(∀ x ∈ nds t,nodeR x=true)→((bldS vars mo t (h,mk)).2=none→b < celT t)∧∀ w,(bldS vars mo t (h,mk)).2=some w→celT t≤b∧(bldS vars mo t (h,mk)).1.1.tk=runT (a+celT t) (b - celT t)
 | .mk k n s l,h,mk,a,b,hm,htk,hn=>by
  have hk:=dS (hn (.mk k n s l) (by rw [nds];exact List.mem_cons_self));have hk: 1≤k∧k≤6:=hk;have hnl: ∀ x ∈ ndsL l,nodeR x=true:=fun x hx=>hn x (by rw [nds];exact List.mem_cons_of_mem _ hx);have hl:=bldL_run (vars:=vars) (mo:=mo) l h mk a b hm htk hnl;have hmo:=d5 (vars:=vars) (mo:=mo) l h mk (fun x hx=>bF (hnl x hx)) hm;have hnn:=hn (.mk k n s l) (by rw [nds];exact List.mem_cons_self);have low: k < 5→celT (.mk k n s l)=0:=by
   intro h5;have hl0: l= []:=by
    rcases (by omega: k=1∨k=2∨k=3∨k=4) with rfl | rfl | rfl | rfl
    ·exact(cc hnn rfl).2.2.2
    ·rw [nodeR_k2] at hnn;simp only [Bool.and_eq_true,decide_eq_true_eq] at hnn;exact List.eq_nil_of_length_eq_zero (by omega)
    ·rw [d8] at hnn;simp only [Bool.and_eq_true,decide_eq_true_eq] at hnn;exact List.eq_nil_of_length_eq_zero (by omega)
    ·rw [nodeR_k4] at hnn;simp only [Bool.and_eq_true,decide_eq_true_eq] at hnn;exact List.eq_nil_of_length_eq_zero (by omega)
   subst hl0;rw [celT,celL,if_neg (by omega)]
  by_cases h1: k=1
  ·rw [dq h1,low (by omega)];exact⟨(fun h=>by cases h),fun w _=>⟨Nat.zero_le _,htk⟩⟩
  ·by_cases h2: k=2
   ·rw [ed h1 h2,low (by omega)];exact⟨(fun h=>by cases h),fun w _=>⟨Nat.zero_le _,htk⟩⟩
   ·by_cases h3: k=3
    ·rw [dy h1 h2 h3,low (by omega)];exact⟨(fun h=>by cases h),fun w _=>⟨Nat.zero_le _,htk⟩⟩
    ·by_cases h4: k=4
     ·rw [ef h1 h2 h3 h4,low (by omega)];exact⟨(fun h=>by cases h),fun w _=>⟨Nat.zero_le _,htk⟩⟩
     ·have hc: celT (.mk k n s l)=1+l.length+celL l:=by rw [celT,if_pos (by omega)]
      rw [hc]
      cases hq: bldL vars mo l (h,mk) with
      | mk st' o =>
       rw [hq] at hl hmo
       cases o with
       | none =>
        rw [dB h1 h2 h3 h4 hq];exact⟨fun _=>by have:=hl.1 rfl;omega,fun w hw=>by cases hw⟩
       | some ws =>
        obtain⟨hb1,hb2⟩:=hl.2 ws rfl;have hwl: ws.length=l.length:=hmo.2 ws rfl;have hb2: st'.1.tk=runT (a+celL l) (b - celL l):=hb2;obtain⟨c,hcc⟩: ∃ c,(if k=5 then PB.fn s ws else PB.vec ws)=c:=⟨_,rfl⟩;obtain⟨tg,htg⟩: ∃ tg,(if k=5 then (5: Int) else 6)=tg:=⟨_,rfl⟩;have hcs: c.size=l.length+1:=by rw [← hcc,← hwl];split <;> rfl
        rw [ce h1 h2 h3 h4 hq hcc htg]
        by_cases hp: c.size≤b - celL l
        ·have he:=place_run hb2 c (by omega) hp;rw [he];dsimp only;rw [if_neg (by omega)];exact⟨(fun h=>by cases h),fun w _=>⟨by omega,by
          show runT (a+celL l+c.size) (b - celL l - c.size)=_
          rw [hcs];congr 1 <;> omega⟩⟩
        ·have he:=(place_full hb2 c (by omega) (by omega)).1;rw [if_pos he];exact⟨fun _=>by omega,fun w hw=>by cases hw⟩
theorem bldL_run {vars: List Wd} {mo: Int→Bool}: ∀(ts: List Tm) (h: HS) (mk: List Int) (a b: Nat),MO h mk→h.tk=runT a b→(∀ x ∈ ndsL ts,nodeR x=true)→((bldL vars mo ts (h,mk)).2=none→b < celL ts)∧∀ ws,(bldL vars mo ts (h,mk)).2=some ws→celL ts≤b∧(bldL vars mo ts (h,mk)).1.1.tk=runT (a+celL ts) (b - celL ts)
 | [],h,mk,a,b,hm,htk,hn=>by
  rw [bldL,celL];exact⟨(fun h=>by cases h),fun w _=>⟨Nat.zero_le _,htk⟩⟩
 | t::ts,h,mk,a,b,hm,htk,hn=>by
  have hnt: ∀ x ∈ nds t,nodeR x=true:=fun x hx=>hn x (by rw [ndsL];exact List.mem_append_left _ hx);have h1:=bldS_run (vars:=vars) (mo:=mo) t h mk a b hm htk hnt;have hmo:=cU (vars:=vars) (mo:=mo) t h mk (fun x hx=>bF (hnt x hx)) hm;rw [celL]
  cases hq: bldS vars mo t (h,mk) with
  | mk st' o =>
   rw [hq] at h1 hmo
   cases o with
   | none =>
    rw [ba,hq];exact⟨fun _=>by have:=h1.1 rfl;omega,fun w hw=>by cases hw⟩
   | some w =>
    obtain⟨hb1,hb2⟩:=h1.2 w rfl;have h2:=bldL_run (vars:=vars) (mo:=mo) ts st'.1 st'.2 _ _ hmo hb2 (fun x hx=>hn x (by rw [ndsL];exact List.mem_append_right _ hx));rw [show (st'.1,st'.2)=st' from rfl] at h2
    cases hq2: bldL vars mo ts st' with
    | mk st'' o2 =>
     rw [hq2] at h2
     cases o2 with
     | none =>
      have e: bldL vars mo (t::ts) (h,mk)=(st'',none):=by rw [ba,hq];dsimp only;rw [hq2]
      rw [e];exact⟨fun _=>by have:=h2.1 rfl;omega,fun w hw=>by cases hw⟩
     | some us =>
      have e: bldL vars mo (t::ts) (h,mk)=(st'',some (w::us)):=by rw [ba,hq];dsimp only;rw [hq2]
      rw [e];obtain⟨hb3,hb4⟩:=h2.2 us rfl;refine⟨(fun h=>by cases h),fun _ _=>⟨by omega,?_⟩⟩
      show st''.1.tk=_
      have hb4: st''.1.tk=runT (a+celT t+celL ts) (b - celT t - celL ts):=hb4;rw [hb4];congr 1 <;> omega
end
def szAt (S: PS) (a: Int): Int:=
 match S.getD a.toNat none with
 | some b=>b.size
 | none=>0
theorem dC {S: PS} {a: Int} {b: PB} (h: S[a.toNat]? =some (some b)): szAt S a=b.size:=by
 unfold szAt;rw [List.getD_eq_getElem?_getD,h];rfl
def MU (h: HS) (mk: List Int) (u0: Int): Prop:=h.u=u0+(mk.map (szAt h.S)).sum
theorem MU.place {h: HS} {mk: List Int} {u0: Int} (hm: MO h mk) (hu: MU h mk u0) {b: PB} (hb: b.ok) (hp: ¬(h.place b).2 < 0): MU (h.place b).1 (mk++ [(h.place b).2]) u0:=by
 obtain⟨h1,h2,h3⟩:=place_new hm.ok hb hp;have hold: mk.map (szAt (h.place b).1.S)=mk.map (szAt h.S):=List.map_congr_left fun a ha=>by
  obtain⟨h4,c,h5⟩:=hm.at_ a ha;rw [dC (cB hm.ok h5),dC h5]
 have hu':(h.place b).1.u=h.u+b.size:=by
  rw [bI] at hp;unfold HS.place;dsimp only;rw [if_neg hp]
 unfold MU at hu ⊢;rw [List.map_append,List.sum_append,hold,hu',hu,List.map_cons,List.map_nil,List.sum_cons,List.sum_nil,dC h1];omega
theorem MU.clear {h: HS} {a: Int} {mk: List Int} {u0: Int} (hm: MO h (a::mk)) (hu: MU h (a::mk) u0): MU (h.clear a.toNat) mk u0:=by
 obtain⟨h0,b,hb⟩:=hm.at_ a List.mem_cons_self;have hnd:=List.nodup_cons.1 hm.nd;have hg: h.S.getD a.toNat none=some b:=by rw [List.getD_eq_getElem?_getD,hb];rfl
 have hc: h.clear a.toNat=⟨h.S.set a.toNat none,fillP h.tk a.toNat b.size false,h.u - b.size⟩:=by
  unfold HS.clear;rw [hg]
 have hold: mk.map (szAt (h.clear a.toNat).S)=mk.map (szAt h.S):=List.map_congr_left fun x hx=>by
  obtain⟨h4,c,h5⟩:=hm.at_ x (List.mem_cons_of_mem _ hx);have hne: a.toNat≠x.toNat:=fun e=>hnd.1 (by rw [show a=x by omega];exact hx);rw [hc];rw [dC (b:=c) (by show (h.S.set a.toNat none)[x.toNat]? =_;rw [List.getElem?_set_ne hne];exact h5),dC h5]
 unfold MU at hu ⊢;rw [hold,hc];rw [List.map_cons,List.sum_cons,dC hb] at hu
 show h.u - b.size=_
 omega
theorem MU.fold: ∀ {mk: List Int} {h: HS} {u0: Int},MO h mk→MU h mk u0→(mk.foldl (fun g a=>g.clear a.toNat) h).u=u0
 | [],h,u0,_,hu=>by unfold MU at hu;simpa using hu
 | a::mk,h,u0,hm,hu=>by
  rw [List.foldl_cons];exact MU.fold hm.clear (hu.clear hm)
mutual
theorem bldS_MU {vars: List Wd} {mo: Int→Bool} {u0: Int}: ∀(t: Tm) (h: HS) (mk: List Int),(∀ x ∈ nds t,x.l.length≤64)→MO h mk→MU h mk u0→MU (bldS vars mo t (h,mk)).1.1 (bldS vars mo t (h,mk)).1.2 u0
 | .mk k n s l,h,mk,hn,hm,hu=>by
  have hl:=bldL_MU (vars:=vars) (mo:=mo) (u0:=u0) l h mk (fun x hx=>hn x (by rw [nds];exact List.mem_cons_of_mem _ hx)) hm hu;have hmo:=d5 (vars:=vars) (mo:=mo) l h mk (fun x hx=>hn x (by rw [nds];exact List.mem_cons_of_mem _ hx)) hm
  by_cases h1: k=1
  ·rw [dq h1];exact hu
  ·by_cases h2: k=2
   ·rw [ed h1 h2];exact hu
   ·by_cases h3: k=3
    ·rw [dy h1 h2 h3];exact hu
    ·by_cases h4: k=4
     ·rw [ef h1 h2 h3 h4];exact hu
     ·cases hq: bldL vars mo l (h,mk) with
      | mk st' o =>
       rw [hq] at hl hmo
       cases o with
       | none=>rw [dB h1 h2 h3 h4 hq];exact hl
       | some ws =>
        have hwl: ws.length≤64:=by rw [hmo.2 ws rfl];exact hn (.mk k n s l) (by rw [nds];exact List.mem_cons_self)
        obtain⟨c,hcc⟩: ∃ c,(if k=5 then PB.fn s ws else PB.vec ws)=c:=⟨_,rfl⟩;obtain⟨tg,htg⟩: ∃ tg,(if k=5 then (5: Int) else 6)=tg:=⟨_,rfl⟩;have hbo: c.ok:=by rw [← hcc];split <;> exact hwl
        rw [ce h1 h2 h3 h4 hq hcc htg]
        by_cases hp:(st'.1.place c).2 < 0
        ·rw [if_pos hp];exact hl
        ·rw [if_neg hp];exact MU.place hmo.1 hl hbo hp
theorem bldL_MU {vars: List Wd} {mo: Int→Bool} {u0: Int}: ∀(ts: List Tm) (h: HS) (mk: List Int),(∀ x ∈ ndsL ts,x.l.length≤64)→MO h mk→MU h mk u0→MU (bldL vars mo ts (h,mk)).1.1 (bldL vars mo ts (h,mk)).1.2 u0
 | [],h,mk,hn,hm,hu=>by rw [bldL];exact hu
 | t::ts,h,mk,hn,hm,hu=>by
  have hnt: ∀ x ∈ nds t,x.l.length≤64:=fun x hx=>hn x (by rw [ndsL];exact List.mem_append_left _ hx);have h1:=bldS_MU (vars:=vars) (mo:=mo) (u0:=u0) t h mk hnt hm hu;have hmo:=cU (vars:=vars) (mo:=mo) t h mk hnt hm
  cases hq: bldS vars mo t (h,mk) with
  | mk st' o =>
   rw [hq] at h1 hmo
   cases o with
   | none=>rw [ba,hq];exact h1
   | some w =>
    have h2:=bldL_MU (vars:=vars) (mo:=mo) (u0:=u0) ts st'.1 st'.2 (fun x hx=>hn x (by rw [ndsL];exact List.mem_append_right _ hx)) hmo h1;rw [show (st'.1,st'.2)=st' from rfl] at h2
    cases hq2: bldL vars mo ts st' with
    | mk st'' o2 =>
     rw [hq2] at h2
     cases o2 with
     | none =>
      have e: bldL vars mo (t::ts) (h,mk)=(st'',none):=by rw [ba,hq];dsimp only;rw [hq2]
      rw [e];exact h2
     | some us =>
      have e: bldL vars mo (t::ts) (h,mk)=(st'',some (w::us)):=by rw [ba,hq];dsimp only;rw [hq2]
      rw [e];exact h2
end
theorem vwL_succ (k: Nat): vwL (k+1)=vwL k++ [⟨4,(k: Int),⟨#[]⟩,true⟩]:=by unfold vwL;rw [List.range_succ,List.map_append];rfl
theorem vtL_succ (k: Nat): vtL (k+1)=vtL k++ [.mk 1 (k: Int) ⟨#[]⟩ []]:=by unfold vtL;rw [List.range_succ,List.map_append];rfl
theorem fO (k: Nat):(vwL k).length=k:=by unfold vwL;simp
theorem cY (k: Nat):(vtL k).length=k:=by unfold vtL;simp
theorem vwL_at {k j: Nat} (h: j < k):(vwL k).getD j Wd.zero=⟨4,(j: Int),⟨#[]⟩,true⟩:=by
 unfold vwL;rw [List.getD_eq_getElem?_getD,List.getElem?_map,List.getElem?_range h];rfl
theorem vtL_at {k j: Nat} (h: j < k):(vtL k)[j]? =some (.mk 1 (j: Int) ⟨#[]⟩ []):=by
 unfold vtL;rw [List.getElem?_map,List.getElem?_range h];rfl
structure VS (h: HS) (n k: Nat): Prop where
 ok: h.Ok
 le: k≤n
 tk: h.tk=runT k (n - k)
 at_: ∀ j,j < k→h.S[j]? =some (some (.var [] []))
theorem VS.new {n: Nat} (h: n≤65536): VS (HS.new n) n 0:=⟨HS.Ok.new h,Nat.zero_le _,(List.nil_append _).symm,fun j hj=>by omega⟩
theorem VS.var {h: HS} {n k: Nat} (hv: VS h n k) (hk: k < n): ∃ h',h.var=(h',(⟨4,(k: Int),⟨#[]⟩,true⟩,0))∧VS h' n (k+1):=by
 have e:=var_run hv.tk (by omega);have hO:=hv.ok.var;rw [e] at hO;have hlen: h.S.length=n:=by
  have h1:=hv.ok.ltk;rw [hv.tk,fh] at h1;have:=hv.le;omega
 refine⟨_,e,hO,by omega,by show runT (k+1) (n - k - 1)=_;congr 1,fun j hj=>?_⟩
 show (h.S.set k (some (.var [] [])))[j]? =_
 rw [List.getElem?_set]
 split
 ·rename_i e
  rw [if_pos (by omega)]
 ·exact hv.at_ j (by omega)
theorem VS.full {h: HS} {n k: Nat} (hv: VS h n k) (hk: ¬ k < n): h.var=(h,(Wd.zero,210)):=by
 have h1:=hv.le;have h2:=hv.tk;rw [show n - k=0 by omega] at h2;exact var_full h2
theorem back_law {h: HS} {n: Nat} (hv: VS h n 20) {t: Tm} (ht: isTm t=true) (hx: ∀ x ∈ nds t,x.kind=1→x.n < 20):(∃ h',h.build t (vwL 20)=(h',(Wd.zero,210))∧h'.u=20∧n < 20+celT t)∨∃ w h',h.build t (vwL 20)=(h',(w,0))∧h'.u=20+celT t∧readS h'.S w=(apT (vtL 20) t,0):=by
 have hal: allS h.S (vwL 20)=true:=by
  unfold allS;rw [List.all_eq_true];intro w hw;unfold vwL at hw;obtain⟨j,hj,rfl⟩:=List.mem_map.1 hw;exact blk_word (at_var (i:=(j: Int)) (by omega) (by rw [Int.toNat_natCast];exact hv.at_ j (List.mem_range.1 hj)) true)
 have hany:(varsN [t]).any (fun v=>decide (((vwL 20).length: Int)≤v))=false:=by
  rw [List.any_eq_false];intro v hv2;have:=fW (p:=fun v=>v < 20) (ndsL [t]) [] (fun v hv=>by cases hv) (by rw [dV];exact hx) v hv2;simp only [fO,decide_eq_true_eq]
  show ¬(20: Int)≤v
  omega
 have hnd:=b0 ht;have hu:=used_run hv.ok hv.tk;have hvw: ∀ x ∈ nds t,nodeR x=true∧(x.kind=1→VarW (era none h.S) ((vwL 20).getD x.n.toNat Wd.zero)):=fun x hxm=>⟨hnd x hxm,fun hk=>by
  have h2:=cc (hnd x hxm) hk;have h3:=hx x hxm hk;rw [vwL_at (by omega)];exact⟨[],at_var (i:=((x.n.toNat: Nat): Int)) (by omega) (by rw [Int.toNat_natCast];exact hv.at_ _ (by omega)) true⟩⟩
 have key:=bldS_read (vars:=vwL 20) (mo:=moreN t) (e:=none) t h [];have hrun:=bldS_run (vars:=vwL 20) (mo:=moreN t) t h [] 20 (n - 20) (MO.nil hv.ok) hv.tk hnd;have hmu:=bldS_MU (vars:=vwL 20) (mo:=moreN t) (u0:=h.u) t h [] (fun x hx=>bF (hnd x hx)) (MO.nil hv.ok) (by unfold MU;simp);have hmo:=cU (vars:=vwL 20) (mo:=moreN t) t h [] (fun x hx=>bF (hnd x hx)) (MO.nil hv.ok);have hle:=hv.le;unfold HS.build;rw [if_neg (by rw [ht];simp),if_neg (by rw [hal];simp),if_neg (by rw [hany];simp)]
 cases hq: bldS (vwL 20) (moreN t) t (h, []) with
 | mk st o =>
  rw [hq] at hrun hmu hmo
  cases o with
  | none=>exact .inl ⟨_,rfl,(MU.fold hmo hmu).trans hu,by have:=hrun.1 rfl;omega⟩
  | some w =>
   obtain⟨hm,hxt⟩:=key w (MO.nil hv.ok) (fun j hj=>by cases hj) hvw (by rw [hq]);rw [hq] at hm;obtain⟨hc,htk⟩:=hrun.2 w rfl;have hr:=rbT_sz (vwL 20) t;have hsz:=dU ht;have hdp: dep t≤600:=(bL (by rw [← du];exact ht)).2.1;refine .inr ⟨w,_,rfl,?_,?_⟩
   ·have:=used_run hmo.ok htk;rw [this];omega
   ·have h1:=hm.rd.whole hm.word (by omega) (by omega);rw [ap_rb (m:=20) (ws:=vwL 20) (fun i hi=>by
     rw [vwL_at hi,List.getD_eq_getElem?_getD,vtL_at hi];rfl) t (fun x hxm=>⟨hnd x hxm,fun hk=>⟨(cc (hnd x hxm) hk).1,hx x hxm hk⟩⟩)]
    exact h1
end Go.Vk
namespace Go.Vk.Try
open Go.RowKit
theorem c_cells {bn bc: Nat}: ∀(t: Tm),∀(A: Option Addr) (c nd: Nat) (w: World) (H: PHeap),RowT H A c t.l→nd+celT t≤1000000000→Inv w H [(some bn,.cells #[.int .i64 ((nd: Nat): Int)] 3 (0,0)),(some bc,.cells #[.func (.func 28) #[] #[.pointer (some ⟨bn,0,none⟩),.pointer (some ⟨bc,0,none⟩)]] 59 (0,0))]→Calls prog 28 #[tv t A c,.pointer (some ⟨bn,0,none⟩),.pointer (some ⟨bc,0,none⟩)] w (fun e w'=>e=.returned (.tuple #[])∧Step w H [(some bn,.cells #[.int .i64 ((nd: Nat): Int)] 3 (0,0)),(some bc,.cells #[.func (.func 28) #[] #[.pointer (some ⟨bn,0,none⟩),.pointer (some ⟨bc,0,none⟩)]] 59 (0,0))] w' H [(some bn,.cells #[.int .i64 (((nd+celT t): Nat): Int)] 3 (0,0)),(some bc,.cells #[.func (.func 28) #[] #[.pointer (some ⟨bn,0,none⟩),.pointer (some ⟨bc,0,none⟩)]] 59 (0,0))]):=by
 refine Tm.ind fun t ih=>?_;intro A c nd w0 H hr hl hI;have hS:=Step.refl hI;have hce_:=celT_eq t;have hlr:=hr.len;have hcn_: t.l.length≤1000000∨t.kind=5∨t.kind=6∨True:=.inr (.inr (.inr trivial));refine enter [(tv t A c),(pB bn),(pB bc)] func28 rfl ntmps28 rfl fun a ha=>?_;refine wp_seq (ab (lin rfl (aJ (cs:=(tA t A c)) hS ha rfl rfl rfl fun b1 a w hS ha=>?_)));refine wpList_nil (aa (wp_seq (wp_seq (ab (lin rfl (ac (f:=0) (o2:=0) T46 T3 rfl rfl rfl rfl ha rfl rfl fun a ha=>?_))))));refine lin rfl (ae (v:=(iV t.kind)) T3 rfl ha rfl (hS.blkL 0 rfl) rfl rfl fun a ha=>?_);refine lin rfl (aP (i:=t.kind) (j:=5) ha rfl rfl rfl fun a ha=>?_);refine Lm rfl ha fun a ha=>?_;refine aj (t:=9) ha rfl (fun h3 ha=>?_) (fun h3 ha=>?_)
 ·refine Lf rfl ha rfl rfl fun a ha=>?_;refine Lf rfl ha rfl rfl fun a ha=>?_;refine Lf rfl ha rfl rfl fun a ha=>?_;refine lin rfl (am ha rfl rfl rfl fun a ha=>?_);refine wpList_nil (aa (ap ha rfl (ab (lin rfl (ae (v:=(iV ((nd: Nat): Int))) T3 rfl ha rfl (hS.blkL 1 rfl) rfl rfl fun a ha=>?_)))));refine lin rfl (ac (f:=3) (o2:=3) T46 T44 rfl rfl rfl rfl ha rfl rfl fun a ha=>?_);refine lin rfl (ae (v:=(.slice A t.l.length c)) T44 rfl ha rfl (hS.blkL 0 rfl) rfl rfl fun a ha=>?_);refine lin rfl (aG T44.und ha rfl rfl fun a ha=>?_);refine lin rfl (aE (i:=1) (j:=((t.l.length: Nat): Int)) ha rfl rfl rfl (by omega) fun a ha=>?_);refine lin rfl (aE (i:=((nd: Nat): Int)) (j:=(1+((t.l.length: Nat): Int))) ha rfl rfl rfl (by omega) fun a ha=>?_);refine lin rfl (ao (cs':= #[(iV (((nd: Nat): Int)+(1+((t.l.length: Nat): Int))))]) T3 hS (i:=1) rfl ha rfl rfl rfl rfl rfl rfl fun a w hS ha=>?_);refine wpList_nil (aa (wp_seq (ab (lin rfl (ac (f:=3) (o2:=3) T46 T44 rfl rfl rfl rfl ha rfl rfl fun a ha=>?_)))));refine lin rfl (ae (v:=(.slice A t.l.length c)) T44 rfl ha rfl (hS.blkL 0 rfl) rfl rfl fun a ha=>?_);refine lin rfl (aG T44.und ha rfl rfl fun a ha=>?_);refine Lm rfl ha fun a ha=>?_;refine wpList_nil (aa (wp_block (aM (fun nn_ a w=> ∃(k: Nat),∃(z: Nat),nn_=t.l.length - k∧Has [] a 31 [(2,(pB bc)),(21,(.slice A t.l.length c)),(22,(iV ((t.l.length: Nat): Int))),(23,(iV ((k: Nat): Int)))]∧Step w0 H [(some bn,.cells #[.int .i64 ((nd: Nat): Int)] 3 (0,0)),(some bc,.cells #[.func (.func 28) #[] #[.pointer (some ⟨bn,0,none⟩),.pointer (some ⟨bc,0,none⟩)]] 59 (0,0))] w H [(some b1,(.cells (tA t A c) 46 (0,0))),(some bn,(.cells #[(iV ((z: Nat): Int))] 3 (0,0))),(some bc,(.cells #[(.func (.func 28) #[] #[.pointer (some ⟨bn,0,none⟩),.pointer (some ⟨bc,0,none⟩)])] 59 (0,0)))]∧(k≤t.l.length)∧(z=nd+(if t.kind=5∨t.kind=6 then 1+t.l.length else 0)+celL (t.l.take k))) _ ⟨0,(nd+(1+t.l.length)),rfl,ha.pk rfl,hS,(by omega),(by rw [List.take_zero,celL];rw [if_pos (by omega)];omega)⟩ ?_)));intro n4 a w hh;obtain⟨k,z,hn4,ha,hS,hk,hz_⟩:=hh;refine wp_seq (ab (lin rfl (aO (i:=((k: Nat): Int)) (j:=((t.l.length: Nat): Int)) ha rfl rfl rfl fun a ha=>?_)));refine wpList_nil (aa (wp_seq (aj (t:=24) ha rfl (fun h5 ha=>?_) (fun h5 ha=>?_))))
  ·refine ap ha rfl (wp_skip (aa (wp_seq (wp_block (wp_seq (ab ?_))))));obtain⟨t6,b6,off6,e6,cs6,fz6,A6,c6,ht6,hA6,hb6,hc6,hr6⟩:=hr.get (j:=k) (by omega);refine lin rfl (aB (b:=b6) (o:=off6) (j:=k) T44.und T46 hA6 ha rfl rfl (by omega) (by omega) rfl fun a ha=>?_);refine lin rfl (an (vs:=(tL t6 A6 c6)) T46 rfl ha rfl (hS.blkH hb6) rfl hc6 rfl fun a ha=>?_);refine lin rfl (aC (cs:=aZ) T46 hS ha rfl rfl fun b7 a w hS ha=>?_);refine lin rfl (ao (cs':=(tA t6 A6 c6)) T46 hS (i:=0) rfl ha rfl rfl rfl rfl rfl rfl fun a w hS ha=>?_);refine wpList_nil (aa (ab (lin rfl (ae (v:=(.func (.func 28) #[] #[.pointer (some ⟨bn,0,none⟩),.pointer (some ⟨bc,0,none⟩)])) T59 rfl ha rfl (hS.blkL 3 rfl) rfl rfl fun a ha=>?_))));refine lin rfl (an (vs:=(tL t6 A6 c6)) T46 rfl ha rfl (hS.blkL 0 rfl) rfl (ak rfl) rfl fun a ha=>?_);have hS:=hS.front 1 rfl;have hS:=hS.front 1 rfl;have hS:=hS.front 3 rfl;have hS:=hS.front 3 rfl;have hcs_:=dA ht6;have hcl_:=dw t.l (k+1);have hk10:=ih _ _ ht6 _ _ z _ _ hr6 (by omega) (Inv.head [(some bn,(.cells #[(iV ((z: Nat): Int))] 3 (0,0))),(some bc,(.cells #[(.func (.func 28) #[] #[.pointer (some ⟨bn,0,none⟩),.pointer (some ⟨bc,0,none⟩)])] 59 (0,0)))] (B:= [(some b7,(.cells (tA t6 A6 c6) 46 (0,0))),(some b1,(.cells (tA t A c) 46 (0,0)))]) hS.inv);refine lin rfl (a8 func28 rfl rfl (ha.evs rfl) ha rfl rfl (hk10) ?_);rintro e w ⟨rfl,hc9⟩;refine⟨_,rfl,fun a ha=>?_⟩;have hS:=Step.frame (Lc:= [(some bn,(.cells #[(iV ((z: Nat): Int))] 3 (0,0))),(some bc,(.cells #[(.func (.func 28) #[] #[.pointer (some ⟨bn,0,none⟩),.pointer (some ⟨bc,0,none⟩)])] 59 (0,0)))]) (R:= [(some b7,(.cells (tA t6 A6 c6) 46 (0,0))),(some b1,(.cells (tA t A c) 46 (0,0)))]) hS hc9;refine wpList_nil (au (aa (ab (lin rfl (aE (i:=((k: Nat): Int)) (j:=1) ha rfl rfl rfl (by omega) fun a ha=>?_)))));refine Lm rfl ha fun a ha=>?_;refine wpList_nil (aa (?_));have hS:=hS.front 2 rfl;have hS:=hS.drop;have hS:=hS.front 1 rfl;have hS:=hS.front 1 rfl;have hS:=hS.front 2 rfl;exact⟨t.l.length - (k+1),by omega,(k+1),(z+celT t6),rfl,ha.pk rfl,hS,(by omega),(by omega)⟩
  ·refine ah ha rfl (wp_exit (ar (ar (aF (ret0 rfl ha ?_)))));have hS:=hS.drop;rw [List.take_of_length_le (by omega)] at hz_;rw [show nd+celT t=z from by rw [hce_];omega];exact⟨rfl,hS⟩
 ·refine ad rfl ha rfl rfl rfl (ac (f:=0) (o2:=0) T46 T3 rfl rfl rfl rfl ha rfl rfl fun a ha=>?_);refine ad rfl ha rfl rfl rfl (ae (v:=(iV t.kind)) T3 rfl ha rfl (hS.blkL 0 rfl) rfl rfl fun a ha=>?_);refine ad rfl ha rfl rfl rfl (aP (i:=t.kind) (j:=6) ha rfl rfl rfl fun a ha=>?_);refine lin rfl (ai ha rfl rfl rfl fun a ha=>?_);refine wpList_nil (aa (aj (t:=13) ha rfl (fun h11 ha=>?_) (fun h11 ha=>?_)))
  ·refine ap ha rfl (ab (lin rfl (ae (v:=(iV ((nd: Nat): Int))) T3 rfl ha rfl (hS.blkL 1 rfl) rfl rfl fun a ha=>?_)));refine lin rfl (ac (f:=3) (o2:=3) T46 T44 rfl rfl rfl rfl ha rfl rfl fun a ha=>?_);refine lin rfl (ae (v:=(.slice A t.l.length c)) T44 rfl ha rfl (hS.blkL 0 rfl) rfl rfl fun a ha=>?_);refine lin rfl (aG T44.und ha rfl rfl fun a ha=>?_);refine lin rfl (aE (i:=1) (j:=((t.l.length: Nat): Int)) ha rfl rfl rfl (by omega) fun a ha=>?_);refine lin rfl (aE (i:=((nd: Nat): Int)) (j:=(1+((t.l.length: Nat): Int))) ha rfl rfl rfl (by omega) fun a ha=>?_);refine lin rfl (ao (cs':= #[(iV (((nd: Nat): Int)+(1+((t.l.length: Nat): Int))))]) T3 hS (i:=1) rfl ha rfl rfl rfl rfl rfl rfl fun a w hS ha=>?_);refine wpList_nil (aa (wp_seq (ab (lin rfl (ac (f:=3) (o2:=3) T46 T44 rfl rfl rfl rfl ha rfl rfl fun a ha=>?_)))));refine lin rfl (ae (v:=(.slice A t.l.length c)) T44 rfl ha rfl (hS.blkL 0 rfl) rfl rfl fun a ha=>?_);refine lin rfl (aG T44.und ha rfl rfl fun a ha=>?_);refine Lm rfl ha fun a ha=>?_;refine wpList_nil (aa (wp_block (aM (fun nn_ a w=> ∃(k: Nat),∃(z: Nat),nn_=t.l.length - k∧Has [] a 31 [(2,(pB bc)),(21,(.slice A t.l.length c)),(22,(iV ((t.l.length: Nat): Int))),(23,(iV ((k: Nat): Int)))]∧Step w0 H [(some bn,.cells #[.int .i64 ((nd: Nat): Int)] 3 (0,0)),(some bc,.cells #[.func (.func 28) #[] #[.pointer (some ⟨bn,0,none⟩),.pointer (some ⟨bc,0,none⟩)]] 59 (0,0))] w H [(some b1,(.cells (tA t A c) 46 (0,0))),(some bn,(.cells #[(iV ((z: Nat): Int))] 3 (0,0))),(some bc,(.cells #[(.func (.func 28) #[] #[.pointer (some ⟨bn,0,none⟩),.pointer (some ⟨bc,0,none⟩)])] 59 (0,0)))]∧(k≤t.l.length)∧(z=nd+(if t.kind=5∨t.kind=6 then 1+t.l.length else 0)+celL (t.l.take k))) _ ⟨0,(nd+(1+t.l.length)),rfl,ha.pk rfl,hS,(by omega),(by rw [List.take_zero,celL];rw [if_pos (by omega)];omega)⟩ ?_)));intro n12 a w hh;obtain⟨k,z,hn12,ha,hS,hk,hz_⟩:=hh;refine wp_seq (ab (lin rfl (aO (i:=((k: Nat): Int)) (j:=((t.l.length: Nat): Int)) ha rfl rfl rfl fun a ha=>?_)));refine wpList_nil (aa (wp_seq (aj (t:=24) ha rfl (fun h13 ha=>?_) (fun h13 ha=>?_))))
   ·refine ap ha rfl (wp_skip (aa (wp_seq (wp_block (wp_seq (ab ?_))))));obtain⟨t14,b14,off14,e14,cs14,fz14,A14,c14,ht14,hA14,hb14,hc14,hr14⟩:=hr.get (j:=k) (by omega);refine lin rfl (aB (b:=b14) (o:=off14) (j:=k) T44.und T46 hA14 ha rfl rfl (by omega) (by omega) rfl fun a ha=>?_);refine lin rfl (an (vs:=(tL t14 A14 c14)) T46 rfl ha rfl (hS.blkH hb14) rfl hc14 rfl fun a ha=>?_);refine lin rfl (aC (cs:=aZ) T46 hS ha rfl rfl fun b15 a w hS ha=>?_);refine lin rfl (ao (cs':=(tA t14 A14 c14)) T46 hS (i:=0) rfl ha rfl rfl rfl rfl rfl rfl fun a w hS ha=>?_);refine wpList_nil (aa (ab (lin rfl (ae (v:=(.func (.func 28) #[] #[.pointer (some ⟨bn,0,none⟩),.pointer (some ⟨bc,0,none⟩)])) T59 rfl ha rfl (hS.blkL 3 rfl) rfl rfl fun a ha=>?_))));refine lin rfl (an (vs:=(tL t14 A14 c14)) T46 rfl ha rfl (hS.blkL 0 rfl) rfl (ak rfl) rfl fun a ha=>?_);have hS:=hS.front 1 rfl;have hS:=hS.front 1 rfl;have hS:=hS.front 3 rfl;have hS:=hS.front 3 rfl;have hcs_:=dA ht14;have hcl_:=dw t.l (k+1);have hk18:=ih _ _ ht14 _ _ z _ _ hr14 (by omega) (Inv.head [(some bn,(.cells #[(iV ((z: Nat): Int))] 3 (0,0))),(some bc,(.cells #[(.func (.func 28) #[] #[.pointer (some ⟨bn,0,none⟩),.pointer (some ⟨bc,0,none⟩)])] 59 (0,0)))] (B:= [(some b15,(.cells (tA t14 A14 c14) 46 (0,0))),(some b1,(.cells (tA t A c) 46 (0,0)))]) hS.inv);refine lin rfl (a8 func28 rfl rfl (ha.evs rfl) ha rfl rfl (hk18) ?_);rintro e w ⟨rfl,hc17⟩;refine⟨_,rfl,fun a ha=>?_⟩;have hS:=Step.frame (Lc:= [(some bn,(.cells #[(iV ((z: Nat): Int))] 3 (0,0))),(some bc,(.cells #[(.func (.func 28) #[] #[.pointer (some ⟨bn,0,none⟩),.pointer (some ⟨bc,0,none⟩)])] 59 (0,0)))]) (R:= [(some b15,(.cells (tA t14 A14 c14) 46 (0,0))),(some b1,(.cells (tA t A c) 46 (0,0)))]) hS hc17;refine wpList_nil (au (aa (ab (lin rfl (aE (i:=((k: Nat): Int)) (j:=1) ha rfl rfl rfl (by omega) fun a ha=>?_)))));refine Lm rfl ha fun a ha=>?_;refine wpList_nil (aa (?_));have hS:=hS.front 2 rfl;have hS:=hS.drop;have hS:=hS.front 1 rfl;have hS:=hS.front 1 rfl;have hS:=hS.front 2 rfl;exact⟨t.l.length - (k+1),by omega,(k+1),(z+celT t14),rfl,ha.pk rfl,hS,(by omega),(by omega)⟩
   ·refine ah ha rfl (wp_exit (ar (ar (aF (ret0 rfl ha ?_)))));have hS:=hS.drop;rw [List.take_of_length_le (by omega)] at hz_;rw [show nd+celT t=z from by rw [hce_];omega];exact⟨rfl,hS⟩
  ·refine ah ha rfl (wp_skip (aa (wp_seq (ab (lin rfl (ac (f:=3) (o2:=3) T46 T44 rfl rfl rfl rfl ha rfl rfl fun a ha=>?_))))));refine lin rfl (ae (v:=(.slice A t.l.length c)) T44 rfl ha rfl (hS.blkL 0 rfl) rfl rfl fun a ha=>?_);refine lin rfl (aG T44.und ha rfl rfl fun a ha=>?_);refine Lm rfl ha fun a ha=>?_;refine wpList_nil (aa (wp_block (aM (fun nn_ a w=> ∃(k: Nat),∃(z: Nat),nn_=t.l.length - k∧Has [] a 31 [(2,(pB bc)),(21,(.slice A t.l.length c)),(22,(iV ((t.l.length: Nat): Int))),(23,(iV ((k: Nat): Int)))]∧Step w0 H [(some bn,.cells #[.int .i64 ((nd: Nat): Int)] 3 (0,0)),(some bc,.cells #[.func (.func 28) #[] #[.pointer (some ⟨bn,0,none⟩),.pointer (some ⟨bc,0,none⟩)]] 59 (0,0))] w H [(some b1,(.cells (tA t A c) 46 (0,0))),(some bn,(.cells #[(iV ((z: Nat): Int))] 3 (0,0))),(some bc,(.cells #[(.func (.func 28) #[] #[.pointer (some ⟨bn,0,none⟩),.pointer (some ⟨bc,0,none⟩)])] 59 (0,0)))]∧(k≤t.l.length)∧(z=nd+(if t.kind=5∨t.kind=6 then 1+t.l.length else 0)+celL (t.l.take k))) _ ⟨0,nd,rfl,ha.pk rfl,hS,(by omega),(by rw [List.take_zero,celL];rw [if_neg (by omega)];omega)⟩ ?_)));intro n19 a w hh;obtain⟨k,z,hn19,ha,hS,hk,hz_⟩:=hh;refine wp_seq (ab (lin rfl (aO (i:=((k: Nat): Int)) (j:=((t.l.length: Nat): Int)) ha rfl rfl rfl fun a ha=>?_)));refine wpList_nil (aa (wp_seq (aj (t:=24) ha rfl (fun h20 ha=>?_) (fun h20 ha=>?_))))
   ·refine ap ha rfl (wp_skip (aa (wp_seq (wp_block (wp_seq (ab ?_))))));obtain⟨t21,b21,off21,e21,cs21,fz21,A21,c21,ht21,hA21,hb21,hc21,hr21⟩:=hr.get (j:=k) (by omega);refine lin rfl (aB (b:=b21) (o:=off21) (j:=k) T44.und T46 hA21 ha rfl rfl (by omega) (by omega) rfl fun a ha=>?_);refine lin rfl (an (vs:=(tL t21 A21 c21)) T46 rfl ha rfl (hS.blkH hb21) rfl hc21 rfl fun a ha=>?_);refine lin rfl (aC (cs:=aZ) T46 hS ha rfl rfl fun b22 a w hS ha=>?_);refine lin rfl (ao (cs':=(tA t21 A21 c21)) T46 hS (i:=0) rfl ha rfl rfl rfl rfl rfl rfl fun a w hS ha=>?_);refine wpList_nil (aa (ab (lin rfl (ae (v:=(.func (.func 28) #[] #[.pointer (some ⟨bn,0,none⟩),.pointer (some ⟨bc,0,none⟩)])) T59 rfl ha rfl (hS.blkL 3 rfl) rfl rfl fun a ha=>?_))));refine lin rfl (an (vs:=(tL t21 A21 c21)) T46 rfl ha rfl (hS.blkL 0 rfl) rfl (ak rfl) rfl fun a ha=>?_);have hS:=hS.front 1 rfl;have hS:=hS.front 1 rfl;have hS:=hS.front 3 rfl;have hS:=hS.front 3 rfl;have hcs_:=dA ht21;have hcl_:=dw t.l (k+1);have hk25:=ih _ _ ht21 _ _ z _ _ hr21 (by omega) (Inv.head [(some bn,(.cells #[(iV ((z: Nat): Int))] 3 (0,0))),(some bc,(.cells #[(.func (.func 28) #[] #[.pointer (some ⟨bn,0,none⟩),.pointer (some ⟨bc,0,none⟩)])] 59 (0,0)))] (B:= [(some b22,(.cells (tA t21 A21 c21) 46 (0,0))),(some b1,(.cells (tA t A c) 46 (0,0)))]) hS.inv);refine lin rfl (a8 func28 rfl rfl (ha.evs rfl) ha rfl rfl (hk25) ?_);rintro e w ⟨rfl,hc24⟩;refine⟨_,rfl,fun a ha=>?_⟩;have hS:=Step.frame (Lc:= [(some bn,(.cells #[(iV ((z: Nat): Int))] 3 (0,0))),(some bc,(.cells #[(.func (.func 28) #[] #[.pointer (some ⟨bn,0,none⟩),.pointer (some ⟨bc,0,none⟩)])] 59 (0,0)))]) (R:= [(some b22,(.cells (tA t21 A21 c21) 46 (0,0))),(some b1,(.cells (tA t A c) 46 (0,0)))]) hS hc24;refine wpList_nil (au (aa (ab (lin rfl (aE (i:=((k: Nat): Int)) (j:=1) ha rfl rfl rfl (by omega) fun a ha=>?_)))));refine Lm rfl ha fun a ha=>?_;refine wpList_nil (aa (?_));have hS:=hS.front 2 rfl;have hS:=hS.drop;have hS:=hS.front 1 rfl;have hS:=hS.front 1 rfl;have hS:=hS.front 2 rfl;exact⟨t.l.length - (k+1),by omega,(k+1),(z+celT t21),rfl,ha.pk rfl,hS,(by omega),(by omega)⟩
   ·refine ah ha rfl (wp_exit (ar (ar (aF (ret0 rfl ha ?_)))));have hS:=hS.drop;rw [List.take_of_length_le (by omega)] at hz_;rw [show nd+celT t=z from by rw [hce_];omega];exact⟨rfl,hS⟩
theorem c_R1Free {w0: World} {H: PHeap} (hI: Inv w0 H []) {t: Tm} {A: Option Addr} {c: Nat} (hr: RowT H A c t.l): Calls prog 104 #[(tv t A c)] w0 (Rs w0 H (.bool (freeB t))):=by
 have hS:=Step.refl hI;refine enter [(tv t A c)] func104 rfl ntmps104 rfl fun a ha=>?_;refine wp_seq (ab (lin rfl (aJ (cs:=(tA t A c)) hS ha rfl rfl rfl fun b1 a w hS ha=>?_)));refine Ls rfl ha fun a ha=>?_;refine wpList_nil (aa (wp_seq (bJ (D:= []) (N:=22) (E:= [(1,(pB b1)),(2,(.bool ((((decide (t.kind=0))&&(decide (t.n=0)))&&(decide (t.s=⟨#[]⟩)))&&(decide (((t.l.length: Nat): Int)=0)))))]) (fun a ha=>?_) ?_)));rotate_left
 ·refine lin rfl (ac (f:=0) (o2:=0) T46 T3 rfl rfl rfl rfl ha rfl rfl fun a ha=>?_);refine lin rfl (ae (v:=(iV t.kind)) T3 rfl ha rfl (hS.blkL 0 rfl) rfl rfl fun a ha=>?_);refine lin rfl (aP (i:=t.kind) (j:=0) ha rfl rfl rfl fun a ha=>?_);refine Lm rfl ha fun a ha=>?_;refine aj (t:=6) ha rfl (fun h3 ha=>?_) (fun h3 ha=>?_)
  ·refine ad rfl ha rfl rfl rfl (ac (f:=1) (o2:=1) T46 T3 rfl rfl rfl rfl ha rfl rfl fun a ha=>?_);refine ad rfl ha rfl rfl rfl (ae (v:=(iV t.n)) T3 rfl ha rfl (hS.blkL 0 rfl) rfl rfl fun a ha=>?_);refine ad rfl ha rfl rfl rfl (aP (i:=t.n) (j:=0) ha rfl rfl rfl fun a ha=>?_);refine lin rfl (am ha rfl rfl rfl fun a ha=>?_);refine Lm rfl ha fun a ha=>?_;refine aj (t:=11) ha rfl (fun h4 ha=>?_) (fun h4 ha=>?_)
   ·refine ad rfl ha rfl rfl rfl (ac (f:=2) (o2:=2) T46 T9 rfl rfl rfl rfl ha rfl rfl fun a ha=>?_);refine ad rfl ha rfl rfl rfl (ae (v:=(.string t.s)) T9 rfl ha rfl (hS.blkL 0 rfl) rfl rfl fun a ha=>?_);refine ad rfl ha rfl rfl rfl (fv ha rfl rfl rfl fun a ha=>?_);refine lin rfl (am ha rfl rfl rfl fun a ha=>?_);refine Lm rfl ha fun a ha=>?_;refine aj (t:=16) ha rfl (fun h5 ha=>?_) (fun h5 ha=>?_)
    ·refine ad rfl ha rfl rfl rfl (ac (f:=3) (o2:=3) T46 T44 rfl rfl rfl rfl ha rfl rfl fun a ha=>?_);refine ad rfl ha rfl rfl rfl (ae (v:=(.slice A t.l.length c)) T44 rfl ha rfl (hS.blkL 0 rfl) rfl rfl fun a ha=>?_);refine ad rfl ha rfl rfl rfl (aG T44.und ha rfl rfl fun a ha=>?_);refine ad rfl ha rfl rfl rfl (aP (i:=((t.l.length: Nat): Int)) (j:=0) ha rfl rfl rfl fun a ha=>?_);refine lin rfl (am ha rfl rfl rfl fun a ha=>?_);refine Ls rfl ha fun a ha=>?_;exact wpList_nil ⟨rfl,rfl,Has.cons ha rfl (Has.cons ha (by simp [lk,Nat.beq,h3,h4,h5]) (ha.nil))⟩
    ·refine Lf rfl ha rfl rfl fun a ha=>?_;refine Lf rfl ha rfl rfl fun a ha=>?_;refine Lf rfl ha rfl rfl fun a ha=>?_;refine Lf rfl ha rfl rfl fun a ha=>?_;refine lin rfl (ai ha rfl rfl rfl fun a ha=>?_);refine Ls rfl ha fun a ha=>?_;exact wpList_nil ⟨rfl,rfl,Has.cons ha rfl (Has.cons ha (by simp [lk,Nat.beq,h3,h4,h5]) (ha.nil))⟩
   ·refine Lf rfl ha rfl rfl fun a ha=>?_;refine Lf rfl ha rfl rfl fun a ha=>?_;refine Lf rfl ha rfl rfl fun a ha=>?_;refine lin rfl (ai ha rfl rfl rfl fun a ha=>?_);refine Lm rfl ha fun a ha=>?_;refine Lf rfl ha rfl rfl fun a ha=>?_;refine Lf rfl ha rfl rfl fun a ha=>?_;refine Lf rfl ha rfl rfl fun a ha=>?_;refine Lf rfl ha rfl rfl fun a ha=>?_;refine lin rfl (ai ha rfl rfl rfl fun a ha=>?_);refine Ls rfl ha fun a ha=>?_;exact wpList_nil ⟨rfl,rfl,Has.cons ha rfl (Has.cons ha (by simp [lk,Nat.beq,h3,h4]) (ha.nil))⟩
  ·refine Lf rfl ha rfl rfl fun a ha=>?_;refine Lf rfl ha rfl rfl fun a ha=>?_;refine Lf rfl ha rfl rfl fun a ha=>?_;refine lin rfl (ai ha rfl rfl rfl fun a ha=>?_);refine Lm rfl ha fun a ha=>?_;refine Lf rfl ha rfl rfl fun a ha=>?_;refine Lf rfl ha rfl rfl fun a ha=>?_;refine Lf rfl ha rfl rfl fun a ha=>?_;refine lin rfl (ai ha rfl rfl rfl fun a ha=>?_);refine Lm rfl ha fun a ha=>?_;refine Lf rfl ha rfl rfl fun a ha=>?_;refine Lf rfl ha rfl rfl fun a ha=>?_;refine Lf rfl ha rfl rfl fun a ha=>?_;refine Lf rfl ha rfl rfl fun a ha=>?_;refine lin rfl (ai ha rfl rfl rfl fun a ha=>?_);refine Ls rfl ha fun a ha=>?_;exact wpList_nil ⟨rfl,rfl,Has.cons ha rfl (Has.cons ha (by simp [lk,Nat.beq,h3]) (ha.nil))⟩
 refine aa (wp_ret (ret1 rfl ha rfl ?_));refine⟨congrArg _ ?_,hS.plain.drop_all⟩;rfl
theorem c_IsSubst {w0: World} {H: PHeap} (hI: Inv w0 H []) {Ab: Option Addr} {cb: Nat} {B: List Tm} (hV: ∀ u ∈ B,VT u) (hB: RowT H Ab cb B) (hlen: B.length≤100000): Calls prog 70 #[(.slice Ab B.length cb)] w0 (Rs w0 H (.bool true)):=by
 have hS:=Step.refl hI;have hlb:=hB.len;refine enter [(.slice Ab B.length cb)] func70 rfl ntmps70 rfl fun a ha=>?_;refine wp_seq (ab (Ls rfl ha fun a ha=>?_));refine wpList_nil (aa (wp_seq (wp_seq (ab (Ls rfl ha fun a ha=>?_)))));refine wpList_nil (aa (wp_block (aM (fun nn_ a w=> ∃(k: Nat),nn_=B.length - k∧Has [] a 27 [(0,(.slice Ab B.length cb)),(3,(iV ((k: Nat): Int)))]∧Step w0 H [] w H []∧(k≤B.length)) _ ⟨0,rfl,ha.pk rfl,hS,(by omega)⟩ ?_)));intro n1 a w hh;obtain⟨k,hn1,ha,hS,hk⟩:=hh;refine wp_seq (wp_seq (ab (Lm rfl ha fun a ha=>?_)));refine Lm rfl ha fun a ha=>?_;refine lin rfl (aG T44.und ha rfl rfl fun a ha=>?_);refine lin rfl (aO (i:=((k: Nat): Int)) (j:=((B.length: Nat): Int)) ha rfl rfl rfl fun a ha=>?_);refine wpList_nil (aa (aj (t:=7) ha rfl (fun h2 ha=>?_) (fun h2 ha=>?_)))
 ·refine ap ha rfl (wp_skip (aa (wp_seq (wp_block (wp_seq (ab (Lm rfl ha fun a ha=>?_)))))));refine Lm rfl ha fun a ha=>?_;obtain⟨t3,b3,off3,e3,cs3,fz3,A3,c3,ht3,hA3,hb3,hc3,hr3⟩:=hB.get (j:=k) (by omega);refine lin rfl (aB (b:=b3) (o:=off3) (j:=k) T44.und T46 hA3 ha rfl rfl (by omega) (by omega) rfl fun a ha=>?_);refine lin rfl (an (vs:=(tL t3 A3 c3)) T46 rfl ha rfl (hS.blkH hb3) rfl hc3 rfl fun a ha=>?_);have hvt3:=VT.at_ hV ht3;have hk4:=c_R1Free hS.inv.nil hr3;rw [(hvt3).free] at hk4;refine lin rfl (aw func104 rfl rfl (ha.evs rfl) ha rfl (hk4) ?_);rintro e w ⟨rfl,hc⟩;refine⟨_,rfl,fun a ha=>?_⟩;have hS:=hS.call hc;refine lin rfl (aL ha rfl rfl fun a ha=>?_);refine Lm rfl ha fun a ha=>?_;refine ad rfl ha rfl rfl rfl (aq ha rfl rfl fun a ha=>?_);refine ad rfl ha rfl rfl rfl (aq ha rfl rfl fun a ha=>?_);obtain⟨t5,b5,off5,e5,cs5,fz5,A5,c5,ht5,hA5,hb5,hc5,hr5⟩:=hB.get (j:=k) (by omega);refine ad rfl ha rfl rfl rfl (aB (b:=b5) (o:=off5) (j:=k) T44.und T46 hA5 ha rfl rfl (by omega) (by omega) rfl fun a ha=>?_);refine ad rfl ha rfl rfl rfl (an (vs:=(tL t5 A5 c5)) T46 rfl ha rfl (hS.blkH hb5) rfl hc5 rfl fun a ha=>?_);have hvt5:=VT.at_ hV ht5;have hvz5:=hvt5.sz;have hk6:=ek hS.inv.nil hr5 (by omega) hvt5.str;rw [(hvt5).is_] at hk6;simp only [if_true] at hk6;refine ad rfl ha rfl rfl rfl (aw func24 rfl rfl (ha.evs rfl) ha rfl (hk6) ?_);rintro e w ⟨rfl,hc⟩;refine⟨_,rfl,fun a ha=>?_⟩;have hS:=hS.call hc;refine ad rfl ha rfl rfl rfl (br (i:=0) (j:=0) ha rfl rfl rfl fun a ha=>?_);refine lin rfl (am ha rfl rfl rfl fun a ha=>?_);refine wpList_nil (aa (ah ha rfl (wp_skip (au (aa (ab (Lm rfl ha fun a ha=>?_)))))));refine lin rfl (aE (i:=((k: Nat): Int)) (j:=1) ha rfl rfl rfl (by omega) fun a ha=>?_);refine Ls rfl ha fun a ha=>?_;refine wpList_nil (aa (?_));exact⟨B.length - (k+1),by omega,(k+1),rfl,ha.pk rfl,hS,(by omega)⟩
 ·refine ah ha rfl (wp_exit (ar (ar (aF (aa (wp_seq (ab (Lm rfl ha fun a ha=>?_))))))));refine lin rfl (aG T44.und ha rfl rfl fun a ha=>?_);refine lin rfl (cS (i:=((B.length: Nat): Int)) (j:=100000) ha rfl rfl rfl fun a ha=>?_);refine Ls rfl ha fun a ha=>?_;refine wpList_nil (aa (wp_ret (ret1 rfl ha rfl ?_)));exact⟨by first | rfl |(rw [decide_eq_true (by omega)]),hS.plain.drop_all⟩
theorem dep_at {ts: List Tm} {k: Nat} {u: Tm} (h: ts[k]? =some u): dep u≤depL ts:=by
 induction ts generalizing k with
 | nil=>simp at h
 | cons x xs ih =>
  rw [depL]
  cases k with
  | zero =>
   obtain rfl: x=u:=by simpa using h
   omega
  | succ k =>
   have:=ih (k:=k) (by simpa using h);omega
theorem fG {t u x: Tm} {k: Nat} (h: t.l[k]? =some u) (hx: x ∈ nds u): x ∈ nds t:=by rw [dK,bZ h];simp [hx]
theorem c_apply {Ab: Option Addr} {cb bl: Nat} {B: List Tm} (hV: ∀ u ∈ B,VT u): ∀(t: Tm) (A: Option Addr) (c: Nat) (deep left: Int) (w0: World) (H: PHeap),RowT H A c t.l→RowT H Ab cb B→(∀ x ∈ nds t,x.kind=1→(0≤x.n∧x.n < B.length)∧x.l= [])→((t.sz: Nat): Int)≤left→left≤4000→((dep t: Nat): Int)≤deep∧deep≤600→Inv w0 H [(some bl,.cells #[.int .i64 left] 3 (0,0))]→Calls prog 71 #[(tv t A c),(.slice Ab B.length cb),(pB bl),(iV deep)] w0 (fun e w'=> ∃ H' A c,e=.returned (.tuple #[tv (apT B t) A c,.bool true])∧RowT H' A c (apT B t).l∧Step w0 H [(some bl,.cells #[.int .i64 left] 3 (0,0))] w' H' [(some bl,.cells #[.int .i64 (left - ((t.sz: Nat): Int))] 3 (0,0))]):=by
 refine Tm.ind fun t ih=>?_;intro A c deep left w0 H hr hB hn hz hz2 hd hI;have hS:=Step.refl hI;have hlr:=hr.len;have hlb:=hB.len;have hts_: t.sz=1+Tm.szL t.l:=t.sz_eq;have hde_:=fR t;have hvar_: t.kind=1→t.sz=1:=fun h_=>by
  have h2_:=(hn t (by rw [dK];exact List.mem_cons_self) h_).2;rw [hts_,h2_];rfl
 have htk_:=fun k=>bB t.l k;refine enter [(tv t A c),(.slice Ab B.length cb),(pB bl),(iV deep)] func71 rfl ntmps71 rfl fun a ha=>?_;refine wp_seq (ab (lin rfl (aJ (cs:=(tA t A c)) hS ha rfl rfl rfl fun b1 a w hS ha=>?_)));refine lin rfl (aC (cs:=aZ) T46 hS ha rfl rfl fun b3 a w hS ha=>?_);refine Ls rfl ha fun a ha=>?_;refine wpList_nil (aa (wp_seq (wp_seq (ab (lin rfl (ac (f:=0) (o2:=0) T46 T3 rfl rfl rfl rfl ha rfl rfl fun a ha=>?_))))));refine lin rfl (ae (v:=(iV t.kind)) T3 rfl ha rfl (hS.blkL 1 rfl) rfl rfl fun a ha=>?_);refine lin rfl (aP (i:=t.kind) (j:=1) ha rfl rfl rfl fun a ha=>?_);refine Lm rfl ha fun a ha=>?_;refine aj (t:=19) ha rfl (fun h5 ha=>?_) (fun h5 ha=>?_)
 ·have hself_: t ∈ nds t:=by cases t;rw [nds];exact List.mem_cons_self
  have hnx_:=hn t hself_ h5;refine ad rfl ha rfl rfl rfl (ac (f:=1) (o2:=1) T46 T3 rfl rfl rfl rfl ha rfl rfl fun a ha=>?_);refine ad rfl ha rfl rfl rfl (ae (v:=(iV t.n)) T3 rfl ha rfl (hS.blkL 1 rfl) rfl rfl fun a ha=>?_);refine ad rfl ha rfl rfl rfl (aq ha rfl rfl fun a ha=>?_);refine ad rfl ha rfl rfl rfl (aG T44.und ha rfl rfl fun a ha=>?_);refine ad rfl ha rfl rfl rfl (aO (i:=t.n) (j:=((B.length: Nat): Int)) ha rfl rfl rfl fun a ha=>?_);refine lin rfl (am ha rfl rfl rfl fun a ha=>?_);refine Lm rfl ha fun a ha=>?_;refine aj (t:=26) ha rfl (fun h6 ha=>?_) (fun h6 ha=>?_)
  ·refine ad rfl ha rfl rfl rfl (aq ha rfl rfl fun a ha=>?_);refine ad rfl ha rfl rfl rfl (ac (f:=1) (o2:=1) T46 T3 rfl rfl rfl rfl ha rfl rfl fun a ha=>?_);refine ad rfl ha rfl rfl rfl (ae (v:=(iV t.n)) T3 rfl ha rfl (hS.blkL 1 rfl) rfl rfl fun a ha=>?_);obtain⟨t7,b7,off7,e7,cs7,fz7,A7,c7,ht7,hA7,hb7,hc7,hr7⟩:=hB.get (j:=(Int.toNat t.n)) (by omega);refine ad rfl ha rfl rfl rfl (aB (b:=b7) (o:=off7) (j:=(Int.toNat t.n)) T44.und T46 hA7 ha rfl rfl (by omega) (by omega) rfl fun a ha=>?_);refine ad rfl ha rfl rfl rfl (an (vs:=(tL t7 A7 c7)) T46 rfl ha rfl (hS.blkH hb7) rfl hc7 rfl fun a ha=>?_);have hvt7:=VT.at_ hV ht7;have hk8:=c_R1Free hS.inv.nil hr7;rw [(hvt7).free] at hk8;refine ad rfl ha rfl rfl rfl (aw func104 rfl rfl (ha.evs rfl) ha rfl (hk8) ?_);rintro e w ⟨rfl,hc⟩;refine⟨_,rfl,fun a ha=>?_⟩;have hS:=hS.call hc;refine ad rfl ha rfl rfl rfl (aL ha rfl rfl fun a ha=>?_);refine lin rfl (am ha rfl rfl rfl fun a ha=>?_);refine wpList_nil (aa (ap ha rfl (wp_seq (ab (Lm rfl ha fun a ha=>?_)))));refine lin rfl (ac (f:=1) (o2:=1) T46 T3 rfl rfl rfl rfl ha rfl rfl fun a ha=>?_);refine lin rfl (ae (v:=(iV t.n)) T3 rfl ha rfl (hS.blkL 1 rfl) rfl rfl fun a ha=>?_);obtain⟨t9,b9,off9,e9,cs9,fz9,A9,c9,ht9,hA9,hb9,hc9,hr9⟩:=hB.get (j:=(Int.toNat t.n)) (by omega);refine lin rfl (aB (b:=b9) (o:=off9) (j:=(Int.toNat t.n)) T44.und T46 hA9 ha rfl rfl (by omega) (by omega) rfl fun a ha=>?_);refine lin rfl (an (vs:=(tL t9 A9 c9)) T46 rfl ha rfl (hS.blkH hb9) rfl hc9 rfl fun a ha=>?_);have hvt9:=VT.at_ hV ht9;have hvz9:=hvt9.sz;have hk10:=gc _ _ _ _ _ hr9 (by omega) hS.inv.nil;rw [(hvt9).sz,(hvt9).dep_] at hk10;refine lin rfl (aw func97 rfl rfl (ha.evs rfl) ha rfl (hk10) ?_);rintro e w ⟨rfl,hc⟩;refine⟨_,rfl,fun a ha=>?_⟩;have hS:=hS.call hc;refine Lm rfl ha fun a ha=>?_;refine lin rfl (af (v:=(iV ((1: Nat): Int))) ha rfl rfl rfl fun a ha=>?_);refine lin rfl (af (v:=(iV ((1: Nat): Int))) ha rfl rfl rfl fun a ha=>?_);refine Ls rfl ha fun a ha=>?_;refine Ls rfl ha fun a ha=>?_;refine wpList_nil (aa (wp_seq (ab (Lm rfl ha fun a ha=>?_))));refine Lm rfl ha fun a ha=>?_;refine lin rfl (aI ha rfl rfl fun a ha=>?_);refine lin rfl (ae (v:=(iV left)) T3 rfl ha rfl (hS.blkL 2 rfl) rfl rfl fun a ha=>?_);refine Lm rfl ha fun a ha=>?_;refine lin rfl (cM (i:=left) (j:=((1: Nat): Int)) ha rfl rfl rfl (by omega) fun a ha=>?_);refine lin rfl (aI ha rfl rfl fun a ha=>?_);refine lin rfl (ao (cs':= #[(iV (left - ((1: Nat): Int)))]) T3 hS (i:=2) rfl ha rfl rfl rfl rfl rfl rfl fun a w hS ha=>?_);refine wpList_nil (aa (wp_seq ?_));obtain⟨t11,b11,off11,e11,cs11,fz11,A11,c11,ht11,hA11,hb11,hc11,hr11⟩:=hB.get (j:=(Int.toNat t.n)) (by omega);have hS_:=hS;refine c_draw_mid bp (N:=112) (E:= [(1,(.slice Ab B.length cb)),(2,(pB bl)),(3,(iV deep)),(4,(pB b1)),(8,(pB b3)),(11,(iV ((1: Nat): Int)))]) _ rfl 14 _ [fun _ v=>v=(.slice Ab B.length cb),fun _ v=>v=(.pointer (some ⟨b1,1,none⟩)),fun _ v=>v=(iV t.n),fun _ v=>v=(.pointer (some ⟨b11,off11+(Int.toNat t.n) * 4,none⟩)),fun _ v=>v=(tv t11 A11 c11),fun _ v=>v=(pB bl),fun _ v=>v=(pB bl),fun _ v=>v=(iV (left - ((1: Nat): Int))),fun _ v=>v=(.bool true),fun _ v=>v=(.bool true),fun _ v=>v=(iV ((1: Nat): Int)),fun _ v=>v=(iV deep),fun _ v=>v=(.bool true),fun _ v=>v=(.bool true),fun _ _=>True] (fun L1=>L1= [(some b3,(.cells (tA t11 A11 c11) 46 (0,0))),(some b1,(.cells (tA t A c) 46 (0,0))),(some bl,(.cells #[(iV (left - ((1: Nat): Int)))] 3 (0,0)))]) mixed rfl rfl rfl rfl rfl rfl (Monos.cons (fun _ _ _ _ h=>h) (Monos.cons (fun _ _ _ _ h=>h) (Monos.cons (fun _ _ _ _ h=>h) (Monos.cons (fun _ _ _ _ h=>h) (Monos.cons (fun _ _ _ _ h=>h) (Monos.cons (fun _ _ _ _ h=>h) (Monos.cons (fun _ _ _ _ h=>h) (Monos.cons (fun _ _ _ _ h=>h) (Monos.cons (fun _ _ _ _ h=>h) (Monos.cons (fun _ _ _ _ h=>h) (Monos.cons (fun _ _ _ _ h=>h) (Monos.cons (fun _ _ _ _ h=>h) (Monos.cons (fun _ _ _ _ h=>h) (Monos.cons (fun _ _ _ _ h=>h) (Monos.cons (fun _ _ _ _ h=>h) (Monos.nil)))))))))))))))) hS (ha.pk rfl) ?_ ?_ (QuietsI.cons ?_ (QuietsI.cons ?_ (QuietsI.cons ?_ (QuietsI.cons ?_ (QuietsI.cons ?_ (QuietsI.cons ?_ (QuietsI.cons ?_ (QuietsI.cons ?_ (QuietsI.cons ?_ (QuietsI.cons ?_ (QuietsI.cons ?_ (QuietsI.cons ?_ (QuietsI.cons ?_ (QuietsI.cons ?_ (QuietsI.cons ?_ (QuietsI.nil))))))))))))))))
   ·intro a w H_ hle hS ha hd;subst hle;obtain⟨_,ha,rfl⟩:=hd.g ha 4 rfl;refine ao (cs':=(tA t11 A11 c11)) T46 hS (i:=0) rfl ha rfl rfl rfl rfl rfl rfl fun a w hS ha=>?_;exact⟨_,_,rfl,rfl,hS,ha.dfr⟩
   ·intro a w H_ L1 hCL hle hS ha hdr_;subst hle;subst hCL;obtain⟨_,ha,rfl⟩:=Dd ha hdr_ 10 rfl;obtain⟨_,ha,rfl⟩:=Dd ha hdr_ 11 rfl;obtain⟨_,ha,rfl⟩:=Dd ha hdr_ 12 rfl;obtain⟨_,ha,rfl⟩:=Dd ha hdr_ 13 rfl;refine id (bg ha rfl rfl fun a ha=>?_);refine aa (wp_ret (ag (retA1 (i:=0) (cs:=(tA t11 A11 c11)) rfl T46 rfl hS rfl ha rfl rfl rfl ?_)));have hS:=hS.drop;have hS:=hS.drop;have hk_: t.kind=1:=h5;have hq_: apT B t=t11:=by rw [apT_var hk_,List.getD_eq_getElem?_getD,ht11];rfl
    have hs_:((t.sz: Nat): Int)=1:=by have h1_:=hvar_ hk_;omega
    rw [hq_,hs_];exact⟨_,_,_,rfl,hr11,hS⟩
   ·intro _;refine⟨?_,?_⟩
    ·refine Qz rfl fun a w hS ha hd=>?_;refine id (aq ha rfl rfl fun a ha=>?_);exact qdone rfl ha hS (by first |(rw [decide_eq_true hB] <;> rfl) |(rw [decide_eq_false hB] <;> rfl) |(rw [hB] <;> rfl) | simp [hB])
    ·intro h;cases h
   ·intro _;refine⟨?_,?_⟩
    ·refine Qz rfl fun a w hS ha hd=>?_;refine id (ac (f:=1) (o2:=1) T46 T3 rfl rfl rfl rfl ha rfl rfl fun a ha=>?_);exact qdone rfl ha hS rfl
    ·intro h;cases h
   ·intro _;refine⟨?_,?_⟩
    ·refine Qz rfl fun a w hS ha hd=>?_;obtain⟨_,ha,rfl⟩:=hd.g ha 1 rfl;refine id (ae (v:=(iV t.n)) T3 rfl ha rfl (hS.blkL 1 rfl) rfl rfl fun a ha=>?_);exact qdone rfl ha hS rfl
    ·intro h;cases h
   ·intro _;refine⟨?_,?_⟩
    ·refine Qz rfl fun a w hS ha hd=>?_;obtain⟨_,ha,rfl⟩:=hd.g ha 0 rfl;obtain⟨_,ha,rfl⟩:=hd.g ha 2 rfl;refine id (aB (b:=b11) (o:=off11) (j:=(Int.toNat t.n)) T44.und T46 hA11 ha rfl rfl (by omega) (by omega) rfl fun a ha=>?_);exact qdone rfl ha hS rfl
    ·intro h;cases h
   ·intro _;refine⟨?_,?_⟩
    ·refine Qz rfl fun a w hS ha hd=>?_;obtain⟨_,ha,rfl⟩:=hd.g ha 3 rfl;refine id (an (vs:=(tL t11 A11 c11)) T46 rfl ha rfl (hS.blkH hb11) rfl hc11 rfl fun a ha=>?_);exact qdone rfl ha hS rfl
    ·intro h;cases h
   ·intro _;refine⟨?_,?_⟩
    ·refine Qz rfl fun a w hS ha hd=>?_;refine id (aq ha rfl rfl fun a ha=>?_);exact qdone rfl ha hS rfl
    ·intro _ L1 hCL;subst hCL;refine Qz rfl fun a w hS ha hd=>?_;refine id (aq ha rfl rfl fun a ha=>?_);exact qdone rfl ha hS rfl
   ·intro _;refine⟨?_,?_⟩
    ·refine Qz rfl fun a w hS ha hd=>?_;obtain⟨_,ha,rfl⟩:=hd.g ha 5 rfl;refine id (aI ha rfl rfl fun a ha=>?_);exact qdone rfl ha hS rfl
    ·intro _ L1 hCL;subst hCL;refine Qz rfl fun a w hS ha hd=>?_;obtain⟨_,ha,rfl⟩:=hd.g ha 5 rfl;refine id (aI ha rfl rfl fun a ha=>?_);exact qdone rfl ha hS rfl
   ·intro _;refine⟨?_,?_⟩
    ·refine Qz rfl fun a w hS ha hd=>?_;obtain⟨_,ha,rfl⟩:=hd.g ha 6 rfl;refine id (ae (v:=(iV (left - ((1: Nat): Int)))) T3 rfl ha rfl (hS.blkL 2 rfl) rfl rfl fun a ha=>?_);exact qdone rfl ha hS rfl
    ·intro _ L1 hCL;subst hCL;refine Qz rfl fun a w hS ha hd=>?_;obtain⟨_,ha,rfl⟩:=hd.g ha 6 rfl;refine id (ae (v:=(iV (left - ((1: Nat): Int)))) T3 rfl ha rfl (hS.blkL 2 rfl) rfl rfl fun a ha=>?_);exact qdone rfl ha hS rfl
   ·intro _;refine⟨?_,?_⟩
    ·refine Qz rfl fun a w hS ha hd=>?_;obtain⟨_,ha,rfl⟩:=hd.g ha 7 rfl;refine id (cH (i:=(left - ((1: Nat): Int))) (j:=0) ha rfl rfl rfl fun a ha=>?_);rw [decide_eq_true (by omega)] at ha;exact qdone rfl ha hS rfl
    ·intro _ L1 hCL;subst hCL;refine Qz rfl fun a w hS ha hd=>?_;obtain⟨_,ha,rfl⟩:=hd.g ha 7 rfl;refine id (cH (i:=(left - ((1: Nat): Int))) (j:=0) ha rfl rfl rfl fun a ha=>?_);rw [decide_eq_true (by omega)] at ha;exact qdone rfl ha hS rfl
   ·intro _;refine⟨?_,?_⟩
    ·refine Qz rfl fun a w hS ha hd=>?_;obtain⟨_,ha,rfl⟩:=hd.g ha 8 rfl;refine id (aq ha rfl rfl fun a ha=>?_);exact qdone rfl ha hS rfl
    ·intro h;cases h
   ·intro _;refine⟨?_,?_⟩
    ·intro a w H_ hle hS ha hd;subst hle;obtain⟨_,ha,rfl⟩:=hd.g ha 9 rfl;rw [if_pos (ay rfl ha rfl rfl rfl)];refine id (aq ha rfl rfl fun a ha=>?_);exact qdone rfl ha hS rfl
    ·intro _ L1 hCL;subst hCL;intro a w H_ hle hS ha hd;subst hle;obtain⟨_,ha,rfl⟩:=hd.g ha 9 rfl;rw [if_pos (ay rfl ha rfl rfl rfl)];refine id (aq ha rfl rfl fun a ha=>?_);exact qdone rfl ha hS rfl
   ·intro _;refine⟨?_,?_⟩
    ·intro a w H_ hle hS ha hd;subst hle;obtain⟨_,ha,rfl⟩:=hd.g ha 9 rfl;rw [if_pos (ay rfl ha rfl rfl rfl)];refine id (aq ha rfl rfl fun a ha=>?_);exact qdone rfl ha hS rfl
    ·intro _ L1 hCL;subst hCL;intro a w H_ hle hS ha hd;subst hle;obtain⟨_,ha,rfl⟩:=hd.g ha 9 rfl;rw [if_pos (ay rfl ha rfl rfl rfl)];refine id (aq ha rfl rfl fun a ha=>?_);exact qdone rfl ha hS rfl
   ·intro _;refine⟨?_,?_⟩
    ·intro a w H_ hle hS ha hd;subst hle;obtain⟨_,ha,rfl⟩:=hd.g ha 10 rfl;obtain⟨_,ha,rfl⟩:=hd.g ha 11 rfl;obtain⟨_,ha,rfl⟩:=hd.g ha 9 rfl;rw [if_pos (ay rfl ha rfl rfl rfl)];refine id (cS (i:=((1: Nat): Int)) (j:=deep) ha rfl rfl rfl fun a ha=>?_);rw [decide_eq_true (by omega)] at ha;exact qdone rfl ha hS rfl
    ·intro _ L1 hCL;subst hCL;intro a w H_ hle hS ha hd;subst hle;obtain⟨_,ha,rfl⟩:=hd.g ha 10 rfl;obtain⟨_,ha,rfl⟩:=hd.g ha 11 rfl;obtain⟨_,ha,rfl⟩:=hd.g ha 9 rfl;rw [if_pos (ay rfl ha rfl rfl rfl)];refine id (cS (i:=((1: Nat): Int)) (j:=deep) ha rfl rfl rfl fun a ha=>?_);rw [decide_eq_true (by omega)] at ha;exact qdone rfl ha hS rfl
   ·intro _;refine⟨?_,?_⟩
    ·refine Qz rfl fun a w hS ha hd=>?_;obtain⟨_,ha,rfl⟩:=hd.g ha 9 rfl;obtain⟨_,ha,rfl⟩:=hd.g ha 12 rfl;refine id (am ha rfl rfl rfl fun a ha=>?_);exact qdone rfl ha hS rfl
    ·intro _ L1 hCL;subst hCL;refine Qz rfl fun a w hS ha hd=>?_;obtain⟨_,ha,rfl⟩:=hd.g ha 9 rfl;obtain⟨_,ha,rfl⟩:=hd.g ha 12 rfl;refine id (am ha rfl rfl rfl fun a ha=>?_);exact qdone rfl ha hS rfl
   ·exact fun h=>absurd rfl h
  ·refine Lf rfl ha rfl rfl fun a ha=>?_;refine Lf rfl ha rfl rfl fun a ha=>?_;refine Lf rfl ha rfl rfl fun a ha=>?_;refine Lf rfl ha rfl rfl fun a ha=>?_;refine Lf rfl ha rfl rfl fun a ha=>?_;refine Lf rfl ha rfl rfl fun a ha=>?_;refine Lf rfl ha rfl rfl fun a ha=>?_;refine lin rfl (ai ha rfl rfl rfl fun a ha=>?_);refine wpList_nil (aa (ah ha rfl (wp_skip (aa (wp_seq ?_)))))
   exfalso
   have hnb_:=hnx_.1;omega
 ·refine Lf rfl ha rfl rfl fun a ha=>?_;refine Lf rfl ha rfl rfl fun a ha=>?_;refine Lf rfl ha rfl rfl fun a ha=>?_;refine Lf rfl ha rfl rfl fun a ha=>?_;refine Lf rfl ha rfl rfl fun a ha=>?_;refine lin rfl (ai ha rfl rfl rfl fun a ha=>?_);refine Lm rfl ha fun a ha=>?_;refine Lf rfl ha rfl rfl fun a ha=>?_;refine Lf rfl ha rfl rfl fun a ha=>?_;refine Lf rfl ha rfl rfl fun a ha=>?_;refine Lf rfl ha rfl rfl fun a ha=>?_;refine Lf rfl ha rfl rfl fun a ha=>?_;refine Lf rfl ha rfl rfl fun a ha=>?_;refine Lf rfl ha rfl rfl fun a ha=>?_;refine lin rfl (ai ha rfl rfl rfl fun a ha=>?_);refine wpList_nil (aa (ah ha rfl (wp_skip (aa (wp_seq (ab (Lm rfl ha fun a ha=>?_)))))));refine Lm rfl ha fun a ha=>?_;refine lin rfl (aI ha rfl rfl fun a ha=>?_);refine lin rfl (ae (v:=(iV left)) T3 rfl ha rfl (hS.blkL 2 rfl) rfl rfl fun a ha=>?_);refine lin rfl (cM (i:=left) (j:=1) ha rfl rfl rfl (by omega) fun a ha=>?_);refine lin rfl (aI ha rfl rfl fun a ha=>?_);refine lin rfl (ao (cs':= #[(iV (left - 1))]) T3 hS (i:=2) rfl ha rfl rfl rfl rfl rfl rfl fun a w hS ha=>?_);refine wpList_nil (aa (wp_seq (wp_seq (ab (Lm rfl ha fun a ha=>?_)))));refine lin rfl (aI ha rfl rfl fun a ha=>?_);refine lin rfl (ae (v:=(iV (left - 1))) T3 rfl ha rfl (hS.blkL 2 rfl) rfl rfl fun a ha=>?_);refine lin rfl (aO (i:=(left - 1)) (j:=0) ha rfl rfl rfl fun a ha=>?_);refine Lm rfl ha fun a ha=>?_;refine aj (t:=75) ha rfl (fun h12 ha=>?_) (fun h12 ha=>?_)
  ·refine Lf rfl ha rfl rfl fun a ha=>?_;refine Lf rfl ha rfl rfl fun a ha=>?_;refine lin rfl (am ha rfl rfl rfl fun a ha=>?_);refine wpList_nil (aa (ap ha rfl (wp_seq ?_)))
   exfalso
   omega
  ·refine ad rfl ha rfl rfl rfl (aq ha rfl rfl fun a ha=>?_);refine ad rfl ha rfl rfl rfl (aO (i:=deep) (j:=1) ha rfl rfl rfl fun a ha=>?_);refine lin rfl (ai ha rfl rfl rfl fun a ha=>?_);refine wpList_nil (aa (aj (t:=78) ha rfl (fun h13 ha=>?_) (fun h13 ha=>?_)))
   ·refine ap ha rfl (wp_seq ?_)
    exfalso
    omega
   ·refine ah ha rfl (wp_skip (aa (wp_seq (ab (lin rfl (an (vs:=(tL t A c)) T46 rfl ha rfl (hS.blkL 1 rfl) rfl (ak rfl) rfl fun a ha=>?_))))));refine lin rfl (aC (cs:=aZ) T46 hS ha rfl rfl fun b14 a w hS ha=>?_);refine lin rfl (ao (cs':=(tA t A c)) T46 hS (i:=0) rfl ha rfl rfl rfl rfl rfl rfl fun a w hS ha=>?_);refine wpList_nil (aa (wp_seq (ab (lin rfl (ac (f:=3) (o2:=3) T46 T44 rfl rfl rfl rfl ha rfl rfl fun a ha=>?_)))));refine lin rfl (ao (cs':= #[(iV t.kind),(iV t.n),(.string t.s),(.slice none 0 0)]) T44 hS (i:=0) rfl ha rfl rfl rfl rfl rfl rfl fun a w hS ha=>?_);refine wpList_nil (aa (wp_seq (wp_seq ?_)));have hS:=hS.cons_none (en:=noEnt) rfl;refine ab (Ls rfl ha fun a ha=>?_);refine wpList_nil (aa (wp_block (aM (fun nn_ a w=> ∃(H17: PHeap),∃(k: Nat),∃(lk: Int),∃(xs_0: List TV),∃(en_0: Ent),∃(A_0: Option Addr),∃(c_0: Nat),Le H H17∧nn_=t.l.length - k∧Has [] a 112 [(1,(.slice Ab B.length cb)),(2,(pB bl)),(3,(iV deep)),(4,(pB b1)),(8,(pB b3)),(12,(pB b14)),(13,(iV ((k: Nat): Int)))]∧Step w0 H [(some bl,.cells #[.int .i64 left] 3 (0,0))] w H17 [en_0,(some b14,(.cells #[(iV t.kind),(iV t.n),(.string t.s),(.slice A_0 xs_0.length c_0)] 46 (0,0))),(some b3,(.cells aZ 46 (0,0))),(some b1,(.cells (tA t A c) 46 (0,0))),(some bl,(.cells #[(iV lk)] 3 (0,0)))]∧(Row (.slice A_0 xs_0.length c_0) en_0 46 4 xs_0.length (flat xs_0))∧(AllR H17 xs_0)∧(xs_0.map TV.t=apL B (t.l.take k))∧(xs_0.length=k)∧(k≤t.l.length)∧(lk=left - 1 - ((Tm.szL (t.l.take k): Nat): Int))) _ ⟨H,0,(left - 1), [],noEnt,none,0,Le.refl _,rfl,ha.pk rfl,hS,(Row.nil 46 4),(AllR.nil _),rfl,rfl,(by omega),(by simp [Tm.szL])⟩ ?_)));intro n17 a w hh;obtain⟨H17,k,lk,xs_0,en_0,A_0,c_0,hle17,hn17,ha,hS,hR_0,hA_0,hmap,hxl,hk,hlk⟩:=hh;have hr:=hr.mono hle17;have hB:=hB.mono hle17;refine wp_seq (wp_seq (ab (Lm rfl ha fun a ha=>?_)));refine lin rfl (ac (f:=3) (o2:=3) T46 T44 rfl rfl rfl rfl ha rfl rfl fun a ha=>?_);refine lin rfl (ae (v:=(.slice A t.l.length c)) T44 rfl ha rfl (hS.blkL 3 rfl) rfl rfl fun a ha=>?_);refine lin rfl (aG T44.und ha rfl rfl fun a ha=>?_);refine lin rfl (aO (i:=((k: Nat): Int)) (j:=((t.l.length: Nat): Int)) ha rfl rfl rfl fun a ha=>?_);refine wpList_nil (aa (aj (t:=86) ha rfl (fun h18 ha=>?_) (fun h18 ha=>?_)))
    ·refine ap ha rfl (wp_skip (aa (wp_seq (wp_block (wp_seq (ab (lin rfl (ac (f:=3) (o2:=3) T46 T44 rfl rfl rfl rfl ha rfl rfl fun a ha=>?_))))))));refine lin rfl (ae (v:=(.slice A t.l.length c)) T44 rfl ha rfl (hS.blkL 3 rfl) rfl rfl fun a ha=>?_);refine Lm rfl ha fun a ha=>?_;obtain⟨t19,b19,off19,e19,cs19,fz19,A19,c19,ht19,hA19,hb19,hc19,hr19⟩:=hr.get (j:=k) (by omega);refine lin rfl (aB (b:=b19) (o:=off19) (j:=k) T44.und T46 hA19 ha rfl rfl (by omega) (by omega) rfl fun a ha=>?_);refine lin rfl (an (vs:=(tL t19 A19 c19)) T46 rfl ha rfl (hS.blkH hb19) rfl hc19 rfl fun a ha=>?_);refine Lm rfl ha fun a ha=>?_;refine Lm rfl ha fun a ha=>?_;refine Lm rfl ha fun a ha=>?_;refine lin rfl (cM (i:=deep) (j:=1) ha rfl rfl rfl (by omega) fun a ha=>?_);have hS:=hS.front 3 rfl;have hS:=hS.front 3 rfl;have hS:=hS.front 3 rfl;have hS:=hS.front 3 rfl;have hS:=hS.front 4 rfl;have hsz19:=szL_at ht19;have hdp19:=dep_at ht19;have hk21:=ih _ _ ht19 _ _ (deep - 1) lk _ _ hr19 hB (fun x hx=>hn x (fG ht19 hx)) (by omega) (by omega) (by omega) (Inv.head [(some bl,(.cells #[(iV lk)] 3 (0,0)))] (B:= [en_0,(some b14,(.cells #[(iV t.kind),(iV t.n),(.string t.s),(.slice A_0 xs_0.length c_0)] 46 (0,0))),(some b3,(.cells aZ 46 (0,0))),(some b1,(.cells (tA t A c) 46 (0,0)))]) hS.inv);refine lin rfl (aw func71 rfl rfl (ha.evs rfl) ha rfl (hk21) ?_);rintro e w ⟨H20,A20,c20,rfl,hr20,hc20⟩;refine⟨_,rfl,fun a ha=>?_⟩;have hS:=Step.frame (Lc:= [(some bl,(.cells #[(iV lk)] 3 (0,0)))]) (R:= [en_0,(some b14,(.cells #[(iV t.kind),(iV t.n),(.string t.s),(.slice A_0 xs_0.length c_0)] 46 (0,0))),(some b3,(.cells aZ 46 (0,0))),(some b1,(.cells (tA t A c) 46 (0,0)))]) hS hc20;have hA_0:=hA_0.mono hc20.le;refine Lm rfl ha fun a ha=>?_;refine lin rfl (af (v:=(tv ((apT B t19)) A20 c20)) ha rfl rfl rfl fun a ha=>?_);refine lin rfl (af (v:=(.bool true)) ha rfl rfl rfl fun a ha=>?_);refine lin rfl (aC (cs:=aZ) T46 hS ha rfl rfl fun b22 a w hS ha=>?_);refine lin rfl (ao (cs':=(tA ((apT B t19)) A20 c20)) T46 hS (i:=0) rfl ha rfl rfl rfl rfl rfl rfl fun a w hS ha=>?_);refine Ls rfl ha fun a ha=>?_;refine wpList_nil (aa (wp_seq (wp_seq (ab (Lm rfl ha fun a ha=>?_)))));refine lin rfl (aL ha rfl rfl fun a ha=>?_);refine wpList_nil (aa (ah ha rfl (wp_skip (aa (ab (lin rfl (ac (f:=3) (o2:=3) T46 T44 rfl rfl rfl rfl ha rfl rfl fun a ha=>?_)))))));refine lin rfl (ae (v:=(.slice A_0 xs_0.length c_0)) T44 rfl ha rfl (hS.blkL 3 rfl) rfl rfl fun a ha=>?_);refine lin rfl (an (vs:=(tL ((apT B t19)) A20 c20)) T46 rfl ha rfl (hS.blkL 0 rfl) rfl (ak rfl) rfl fun a ha=>?_);refine lin rfl (bi (vs:= [(0,(tv ((apT B t19)) A20 c20))]) (cells:=(tL ((apT B t19)) A20 c20)) T44.und T46 hS ha (ha.evp rfl) rfl rfl rfl rfl fun b24 a w hS ha=>?_);obtain⟨H24,hS,hle24,hb24⟩:=hS.give;have hA_0:=hA_0.mono hle24;have hr20:=hr20.mono hle24;have hr24: RowT H24 (some ⟨b24,0,none⟩) 1 [(apT B t19)]:=RowT.of_lit ([⟨(apT B t19),A20,c20⟩]: List TV) hb24 (AllR.cons hr20 (AllR.nil _)) (by simp) rfl;have hS:=hS.front 2 rfl;refine lin rfl (aW (news:=(flat ([⟨(apT B t19),A20,c20⟩]: List TV))) (xs:=(flat xs_0)) T44.und T46 rfl rfl hS hR_0 ha rfl rfl rfl (fun _=>⟨b24,0,_,_,_,rfl,hS.blkH hb24,ak rfl⟩) (ch rfl) (by omega) rfl rfl fun v25 en25 a w hR25 hS ha=>?_);rw [← cn] at hR25;obtain⟨A25,c25,rfl⟩:=hR25.slice;have hn_:(xs_0.length+1)=(xs_0++([⟨(apT B t19),A20,c20⟩]: List TV)).length:=by have h_:=hR25.1;rw [a7] at h_;omega
     rw [show Value.slice A25 (xs_0.length+1) c25=Value.slice A25 (xs_0++([⟨(apT B t19),A20,c20⟩]: List TV)).length c25 from by rw [hn_]] at ha;rw [hn_] at hR25;refine lin rfl (ac (f:=3) (o2:=3) T46 T44 rfl rfl rfl rfl ha rfl rfl fun a ha=>?_);refine lin rfl (ao (cs':= #[(iV t.kind),(iV t.n),(.string t.s),(.slice A25 ((xs_0++([⟨(apT B t19),A20,c20⟩]: List TV)).length) c25)]) T44 hS (i:=3) rfl ha rfl rfl rfl rfl rfl rfl fun a w hS ha=>?_);refine wpList_nil (au (aa (ab (Lm rfl ha fun a ha=>?_))));refine lin rfl (aE (i:=((k: Nat): Int)) (j:=1) ha rfl rfl rfl (by omega) fun a ha=>?_);refine Ls rfl ha fun a ha=>?_;refine wpList_nil (aa (?_));have hS:=hS.front 1 rfl;have hS:=hS.drop;have hS:=hS.front 1 rfl;have hS:=hS.front 4 rfl;have hS:=hS.front 4 rfl;have hS:=hS.front 4 rfl;have hS:=hS.front 4 rfl;exact⟨t.l.length - (k+1),by omega,H24,(k+1),(lk - ((t19.sz: Nat): Int)),(xs_0++([⟨(apT B t19),A20,c20⟩]: List TV)),en25,A25,c25,(hle17.trans (hc20.le.trans (hle24))),rfl,ha.pk rfl,hS,(by simpa using hR25),(AllR.append hA_0 (AllR.cons hr20 (AllR.nil _))),(by rw [List.map_append,hmap,apL_take ht19];rfl),(by simp;omega),(by omega),(by rw [hlk,szL_take_step ht19];omega)⟩
    ·refine ah ha rfl (wp_exit (ar (ar (aF (aa (wp_seq (ab (lin rfl (an (vs:= [(iV t.kind),(iV t.n),(.string t.s),(.slice A_0 xs_0.length c_0)]) T46 rfl ha rfl (hS.blkL 1 rfl) rfl (ak rfl) rfl fun a ha=>?_)))))))));refine lin rfl (ao (cs':= #[(iV t.kind),(iV t.n),(.string t.s),(.slice A_0 xs_0.length c_0)]) T46 hS (i:=2) rfl ha rfl rfl rfl rfl rfl rfl fun a w hS ha=>?_);refine Ls rfl ha fun a ha=>?_;refine wpList_nil (aa (wp_ret (retA1 (i:=2) (cs:= #[(iV t.kind),(iV t.n),(.string t.s),(.slice A_0 xs_0.length c_0)]) rfl T46 rfl hS rfl ha rfl rfl rfl ?_)));have hS:=hS.front 1 rfl;have hS:=hS.drop;have hS:=hS.front 1 rfl;have hS:=hS.drop;have hS:=hS.front 1 rfl;have hS:=hS.drop;rw [List.take_of_length_le (by omega)] at hmap hlk;obtain⟨HX,A',c',hv',hS,hle,hr'⟩:=hR_0.release hS hA_0 (by omega);rw [hmap] at hr';have hlm_:(apL B t.l).length=xs_0.length:=by rw [← hmap,List.length_map]
     have hk_: ¬ t.kind=1:=h5;rw [apT_not hk_,show left - ((t.sz: Nat): Int)=lk from by rw [hlk,hts_];omega];have e_: Value.slice A_0 xs_0.length c_0=Value.slice A' (apL B t.l).length c':=by rw [hv',hlm_]
     exact⟨HX,A',c',by rw [e_];rfl,hr',hS⟩
theorem c_R1Subst {w0: World} {H: PHeap} (hI: Inv w0 H []) {t: Tm} {A: Option Addr} {c: Nat} (hr: RowT H A c t.l) {Ab: Option Addr} {cb: Nat} {B: List Tm} (hV: ∀ u ∈ B,VT u) (hB: RowT H Ab cb B) (hlen: B.length≤100000) (hok: isR t=true) (hb: strB t=true) (hn: ∀ x ∈ nds t,x.kind=1→(0≤x.n∧x.n < B.length)∧x.l= []): Calls prog 30 #[(tv t A c),(.slice Ab B.length cb)] w0 (fun e w'=> ∃ H' A c,e=.returned (.tuple #[tv (apT B t) A c,.int .i64 0])∧RowT H' A c (apT B t).l∧Step w0 H [] w' H' []):=by
 have hS:=Step.refl hI;have hsz_:=(bL hok).1;have hdp_:=(bL hok).2.1;refine enter [(tv t A c),(.slice Ab B.length cb)] func30 rfl ntmps30 rfl fun a ha=>?_;refine wp_seq (ab (lin rfl (aJ (cs:=(tA t A c)) hS ha rfl rfl rfl fun b1 a w hS ha=>?_)));refine lin rfl (aC (cs:=aZ) T46 hS ha rfl rfl fun b3 a w hS ha=>?_);refine Ls rfl ha fun a ha=>?_;refine wpList_nil (aa (wp_seq (wp_seq (ab (lin rfl (an (vs:=(tL t A c)) T46 rfl ha rfl (hS.blkL 1 rfl) rfl (ak rfl) rfl fun a ha=>?_))))));have hk5:=ek hS.inv.nil hr (by omega) hb;rw [hok] at hk5;simp only [if_true] at hk5;refine lin rfl (aw func24 rfl rfl (ha.evs rfl) ha rfl (hk5) ?_);rintro e w ⟨rfl,hc⟩;refine⟨_,rfl,fun a ha=>?_⟩;have hS:=hS.call hc;refine lin rfl (br (i:=0) (j:=0) ha rfl rfl rfl fun a ha=>?_);refine wpList_nil (aa (ah ha rfl (wp_skip (aa (wp_seq (ab (Lm rfl ha fun a ha=>?_)))))));refine lin rfl (aw func70 rfl rfl (ha.evs rfl) ha rfl (c_IsSubst hS.inv.nil hV hB hlen) ?_);rintro e w ⟨rfl,hc⟩;refine⟨_,rfl,fun a ha=>?_⟩;have hS:=hS.call hc;refine Ls rfl ha fun a ha=>?_;refine wpList_nil (aa (wp_seq (wp_seq (ab (Lm rfl ha fun a ha=>?_)))));refine lin rfl (aL ha rfl rfl fun a ha=>?_);refine wpList_nil (aa (ah ha rfl (wp_skip (aa (wp_seq (ab (lin rfl (aC (cs:= #[(iV 0)]) T3 hS ha rfl rfl fun b6 a w hS ha=>?_))))))));refine lin rfl (ao (cs':= #[(iV 4000)]) T3 hS (i:=0) rfl ha rfl rfl rfl rfl rfl rfl fun a w hS ha=>?_);refine wpList_nil (aa (wp_seq (ab (lin rfl (an (vs:=(tL t A c)) T46 rfl ha rfl (hS.blkL 2 rfl) rfl (ak rfl) rfl fun a ha=>?_)))));refine Lm rfl ha fun a ha=>?_;have hS:=hS.front 2 rfl;have hS:=hS.front 2 rfl;have hS:=hS.front 2 rfl;have hk9:=c_apply (bl:=b6) hV t _ _ 600 4000 _ _ hr hB hn (by omega) (by omega) (by omega) (Inv.head [(some b6,(.cells #[(iV 4000)] 3 (0,0)))] (B:= [(some b3,(.cells aZ 46 (0,0))),(some b1,(.cells (tA t A c) 46 (0,0)))]) hS.inv);refine lin rfl (aw func71 rfl rfl (ha.evs rfl) ha rfl (hk9) ?_);rintro e w ⟨H8,A8,c8,rfl,hr8,hc8⟩;refine⟨_,rfl,fun a ha=>?_⟩;have hS:=Step.frame (Lc:= [(some b6,(.cells #[(iV 4000)] 3 (0,0)))]) (R:= [(some b3,(.cells aZ 46 (0,0))),(some b1,(.cells (tA t A c) 46 (0,0)))]) hS hc8;refine Lm rfl ha fun a ha=>?_;refine lin rfl (af (v:=(tv ((apT B t)) A8 c8)) ha rfl rfl rfl fun a ha=>?_);refine lin rfl (af (v:=(.bool true)) ha rfl rfl rfl fun a ha=>?_);refine lin rfl (aC (cs:=aZ) T46 hS ha rfl rfl fun b10 a w hS ha=>?_);refine lin rfl (ao (cs':=(tA ((apT B t)) A8 c8)) T46 hS (i:=0) rfl ha rfl rfl rfl rfl rfl rfl fun a w hS ha=>?_);refine Ls rfl ha fun a ha=>?_;refine wpList_nil (aa (wp_seq (wp_seq (ab (Lm rfl ha fun a ha=>?_)))));refine lin rfl (aL ha rfl rfl fun a ha=>?_);refine wpList_nil (aa (ah ha rfl (wp_skip (aa (wp_seq (ab (lin rfl (an (vs:=(tL ((apT B t)) A8 c8)) T46 rfl ha rfl (hS.blkL 0 rfl) rfl (ak rfl) rfl fun a ha=>?_))))))));refine lin rfl (ao (cs':=(tA ((apT B t)) A8 c8)) T46 hS (i:=2) rfl ha rfl rfl rfl rfl rfl rfl fun a w hS ha=>?_);refine Ls rfl ha fun a ha=>?_;refine wpList_nil (aa (wp_ret (retA1 (i:=2) (cs:=(tA ((apT B t)) A8 c8)) rfl T46 rfl hS rfl ha rfl rfl rfl ?_)));have hS:=hS.drop;have hS:=hS.drop;have hS:=hS.drop;have hS:=hS.drop;exact⟨_,_,_,rfl,hr8,hS⟩
end Go.Vk.Try
namespace Go.Vk.Try
open Go.RowKit
theorem back_hn {t: Tm} (ht: isTm t=true) (hx: ∀ x ∈ nds t,x.kind=1→x.n < 20): ∀ x ∈ nds t,x.kind=1→(0≤x.n∧x.n <(vtL 20).length)∧x.l= []:=fun x hm hk=>by
 have h1:=cc (b0 ht x hm) hk;have h2:=hx x hm hk;rw [cY];exact⟨⟨h1.1,by omega⟩,h1.2.2.2⟩
set_option maxHeartbeats 4000000 in
theorem c_HeapReadsBack {w0: World} {H: PHeap} (hI: Inv w0 H []) {n: Int} {t: Tm} {A: Option Addr} {c: Nat} (hr: RowT H A c t.l) (hz: t.sz≤1048576) (hb: strB t=true): Calls prog 5 #[(iV n),(tv t A c)] w0 (fun e w'=> ∃ H',e=.returned (.bool true)∧Step w0 H [] w' H' []):=by
 have hS:=Step.refl hI;refine enter [(iV n),(tv t A c)] func5 rfl ntmps5 rfl fun a ha=>?_;refine wp_seq (ab (lin rfl (aJ (cs:=(tA t A c)) hS ha rfl rfl rfl fun b1 a w hS ha=>?_)));refine Ls rfl ha fun a ha=>?_;refine wpList_nil (aa (wp_seq (wp_seq (ab ?_))));have hk4:=c_sane hS.inv.nil;refine lin rfl (aw func9 rfl rfl (ha.evs rfl) ha rfl (hk4) ?_);rintro e w ⟨H3,rfl,hc3⟩;refine⟨_,rfl,fun a ha=>?_⟩;have hS:=hS.call hc3;have hr:=hr.mono hc3.le;refine lin rfl (aL ha rfl rfl fun a ha=>?_);refine wpList_nil (aa (ah ha rfl (wp_skip (aa (wp_seq (wp_seq (ab (lin rfl (an (vs:=(tL t A c)) T46 rfl ha rfl (hS.blkL 0 rfl) rfl (ak rfl) rfl fun a ha=>?_)))))))));refine lin rfl (aw func23 rfl rfl (ha.evs rfl) ha rfl (c_plain hS.inv.nil hr (by omega)) ?_);rintro e w ⟨rfl,hc⟩;refine⟨_,rfl,fun a ha=>?_⟩;have hS:=hS.call hc;refine lin rfl (aL ha rfl rfl fun a ha=>?_);refine Lm rfl ha fun a ha=>?_;refine av (t:=23) ha rfl (fun h5 ha=>?_) (fun h5 ha=>?_)
 ·refine Lf rfl ha rfl rfl fun a ha=>?_;refine Lf rfl ha rfl rfl fun a ha=>?_;refine Lf rfl ha rfl rfl fun a ha=>?_;refine lin rfl (am ha rfl rfl rfl fun a ha=>?_);refine Lm rfl ha fun a ha=>?_;refine Lf rfl ha rfl rfl fun a ha=>?_;refine Lf rfl ha rfl rfl fun a ha=>?_;refine lin rfl (am ha rfl rfl rfl fun a ha=>?_);refine Lm rfl ha fun a ha=>?_;refine Lf rfl ha rfl rfl fun a ha=>?_;refine Lf rfl ha rfl rfl fun a ha=>?_;refine lin rfl (am ha rfl rfl rfl fun a ha=>?_);refine wpList_nil (aa (ap ha rfl (wp_seq (ab (Ls rfl ha fun a ha=>?_)))));refine wpList_nil (aa (wp_ret (ag (ret1 rfl ha rfl ?_))));exact⟨_,by first | rfl | simp,hS.drop_all⟩
 ·refine ad rfl ha rfl rfl rfl (an (vs:=(tL t A c)) T46 rfl ha rfl (hS.blkL 0 rfl) rfl (ak rfl) rfl fun a ha=>?_);refine ad rfl ha rfl rfl rfl (aw func24 rfl rfl (ha.evs rfl) ha rfl (ek hS.inv.nil hr (by omega) hb) ?_);rintro e w ⟨rfl,hc⟩;refine⟨_,rfl,fun a ha=>?_⟩;have hS:=hS.call hc;refine ad rfl ha rfl rfl rfl (br (i:=(if isR t then (0: Int) else 3)) (j:=0) ha rfl rfl rfl fun a ha=>?_);refine lin rfl (ai ha rfl rfl rfl fun a ha=>?_);refine Lm rfl ha fun a ha=>?_;refine aX (t:=28) ha rfl (fun h6 ha=>?_) (fun h6 ha=>?_)
  ·have hok: isR t=false:=by
    have h2_:=h6
    cases h_: isR t with
    | true=>rw [h_] at h2_;simp at h2_
    | false=>rfl
   refine Lf rfl ha rfl rfl fun a ha=>?_;refine Lf rfl ha rfl rfl fun a ha=>?_;refine lin rfl (am ha rfl rfl rfl fun a ha=>?_);refine Lm rfl ha fun a ha=>?_;refine Lf rfl ha rfl rfl fun a ha=>?_;refine Lf rfl ha rfl rfl fun a ha=>?_;refine lin rfl (am ha rfl rfl rfl fun a ha=>?_);refine wpList_nil (aa (ap ha rfl (wp_seq (ab (Ls rfl ha fun a ha=>?_)))));refine wpList_nil (aa (wp_ret (ag (ret1 rfl ha rfl ?_))));exact⟨_,by first | rfl | simp,hS.drop_all⟩
  ·have hok: isR t=true:=by
    have h2_:=h6
    cases h_: isR t with
    | true=>rfl
    | false=>rw [h_] at h2_;simp at h2_
   refine ad rfl ha rfl rfl rfl (aq ha rfl rfl fun a ha=>?_);refine ad rfl ha rfl rfl rfl (aO (i:=n) (j:=16) ha rfl rfl rfl fun a ha=>?_);refine lin rfl (ai ha rfl rfl rfl fun a ha=>?_);refine Lm rfl ha fun a ha=>?_;refine aj (t:=32) ha rfl (fun h7 ha=>?_) (fun h7 ha=>?_)
   ·refine Lf rfl ha rfl rfl fun a ha=>?_;refine Lf rfl ha rfl rfl fun a ha=>?_;refine lin rfl (am ha rfl rfl rfl fun a ha=>?_);refine wpList_nil (aa (ap ha rfl (wp_seq (ab (Ls rfl ha fun a ha=>?_)))));refine wpList_nil (aa (wp_ret (ag (ret1 rfl ha rfl ?_))));exact⟨_,by first | rfl | simp,hS.drop_all⟩
   ·refine ad rfl ha rfl rfl rfl (aq ha rfl rfl fun a ha=>?_);refine ad rfl ha rfl rfl rfl (cJ (i:=n) (j:=65536) ha rfl rfl rfl fun a ha=>?_);refine lin rfl (ai ha rfl rfl rfl fun a ha=>?_);refine wpList_nil (aa (aj (t:=35) ha rfl (fun h8 ha=>?_) (fun h8 ha=>?_)))
    ·refine ap ha rfl (wp_seq (ab (Ls rfl ha fun a ha=>?_)));refine wpList_nil (aa (wp_ret (ag (ret1 rfl ha rfl ?_))));exact⟨_,by first | rfl | simp,hS.drop_all⟩
    ·refine ah ha rfl (wp_skip (aa (wp_seq ?_)));have hTm_: isTm t=true:=by rw [du];exact hok
     have hsz_:=dU hTm_;have hcel_: celT t≤10000:=by have h_:=celT_le t (bL hok).2.2;omega
     have htog_: togB [t]=true:=by
      unfold togB;rw [List.all_cons,List.all_nil,hok,eg];exact decide_eq_true (by omega)
     refine ab (Lm rfl ha fun a ha=>?_);have hk10:=c_hNew (n:=n) hS.inv.nil;refine lin rfl (aw func10 rfl rfl (ha.evs rfl) ha rfl (hk10) ?_);rintro e w hN_;obtain⟨p9,L9,rfl,hK9,hc9⟩:=newR_ok hN_ (by omega);refine⟨_,rfl,fun a ha=>?_⟩;have hS:=(Step.frame (Lc:= []) (R:= [(some b1,(.cells (tA t A c) 46 (0,0)))]) hS hc9).perm List.perm_append_comm;obtain⟨hs11,hd11⟩: ∃ s_,s_=(HS.new (Int.toNat n)):=⟨_,rfl⟩;rw [← hd11] at hK9;have hO11: HS.Ok hs11:=by rw [hd11];exact HS.Ok.new (by omega)
     refine Lm rfl ha fun a ha=>?_;refine lin rfl (af (v:=(pB p9)) ha rfl rfl rfl fun a ha=>?_);refine lin rfl (af (v:=(iV 0)) ha rfl rfl rfl fun a ha=>?_);refine Ls rfl ha fun a ha=>?_;refine Ls rfl ha fun a ha=>?_;refine wpList_nil (aa (wp_seq (wp_seq (ab (Lm rfl ha fun a ha=>?_)))));refine lin rfl (br (i:=0) (j:=0) ha rfl rfl rfl fun a ha=>?_);refine Lm rfl ha fun a ha=>?_;refine ad rfl ha rfl rfl rfl (aq ha rfl rfl fun a ha=>?_);refine ad rfl ha rfl rfl rfl (a6 T24.und T88 ha rfl rfl rfl fun a ha=>?_);refine lin rfl (ai ha rfl rfl rfl fun a ha=>?_);refine wpList_nil (aa (ah ha rfl (wp_skip (aa (wp_seq ?_)))));have hv0_: VS hs11 (Int.toNat n) 0:=by rw [hd11];exact VS.new (by omega)
     refine ab (lin rfl (an (vs:=(tL t A c)) T46 rfl ha rfl (hS.blkL 0 rfl) rfl (ak rfl) rfl fun a ha=>?_));refine lin rfl (bi (vs:= [(0,(tv t A c))]) (cells:=(tL t A c)) T44.und T46 hS ha (ha.evp rfl) rfl rfl rfl rfl fun b12 a w hS ha=>?_);obtain⟨H12,hS,hle12,hb12⟩:=hS.give;have hr:=hr.mono hle12;have hr12: RowT H12 (some ⟨b12,0,none⟩) 1 [t]:=RowT.of_lit ([⟨t,A,c⟩]: List TV) hb12 (AllR.cons hr (AllR.nil _)) (by simp) rfl;have hk14:=c_R1Vars hS.inv.nil hr12 (by rw [eg];omega) (by rw [strBL,strBL,hb];rfl);rw [htog_] at hk14;simp only [if_true] at hk14;refine lin rfl (aw func25 rfl rfl (ha.evs rfl) ha rfl (hk14) ?_);rintro e w ⟨A13,c13,en13,rfl,hR13,hc13⟩;refine⟨_,rfl,fun a ha=>?_⟩;have hS:=hS.call_own hc13;refine Lm rfl ha fun a ha=>?_;refine lin rfl (af (v:=(.slice A13 ((varRL [t] []).length) c13)) ha rfl rfl rfl fun a ha=>?_);refine lin rfl (af (v:=(iV 0)) ha rfl rfl rfl fun a ha=>?_);refine Ls rfl ha fun a ha=>?_;refine Ls rfl ha fun a ha=>?_;refine wpList_nil (aa (wp_seq (wp_seq ?_)));have hvl2_:=eG [t] [];rw [eg,List.length_nil] at hvl2_;refine ab (Lm rfl ha fun a ha=>?_);refine lin rfl (br (i:=0) (j:=0) ha rfl rfl rfl fun a ha=>?_);refine Lm rfl ha fun a ha=>?_;refine ad rfl ha rfl rfl rfl (aq ha rfl rfl fun a ha=>?_);refine ad rfl ha rfl rfl rfl (aG T22.und ha rfl rfl fun a ha=>?_);refine ad rfl ha rfl rfl rfl (cJ (i:=(((varRL [t] []).length: Nat): Int)) (j:=0) ha rfl rfl rfl fun a ha=>?_);refine ad rfl ha rfl rfl rfl (aq ha rfl rfl fun a ha=>?_);refine aj (t:=59) ha rfl (fun h15 ha=>?_) (fun h15 ha=>?_)
     ·refine ad rfl ha rfl rfl rfl (aq ha rfl rfl fun a ha=>?_);refine ad rfl ha rfl rfl rfl (aw func26 rfl rfl (ha.evs rfl) ha rfl (c_Max hS.inv.nil (RdI.of_row hS.inv hR13 0 rfl (by first | omega | simp |(simp;omega))) (by omega)) ?_);rintro e w ⟨rfl,hc⟩;refine⟨_,rfl,fun a ha=>?_⟩;have hS:=hS.call hc;refine ad rfl ha rfl rfl rfl (cH (i:=(maxI (varRL [t] []))) (j:=20) ha rfl rfl rfl fun a ha=>?_);refine ad rfl ha rfl rfl rfl (am ha rfl rfl rfl fun a ha=>?_);refine lin rfl (ai ha rfl rfl rfl fun a ha=>?_);refine wpList_nil (aa (aj (t:=64) ha rfl (fun h16 ha=>?_) (fun h16 ha=>?_)))
      ·refine ap ha rfl (wp_seq (ab (Ls rfl ha fun a ha=>?_)));refine wpList_nil (aa (wp_ret (ag (ret1 rfl ha rfl ?_))));exact⟨_,by first | rfl | simp,hS.drop_all⟩
      ·refine ah ha rfl (wp_skip (aa (wp_seq ?_)));have hvm_:=vars_max (t:=t) (n:=20) (by rintro⟨h1_,h2_⟩;omega);refine ab (Ls rfl ha fun a ha=>?_);refine wpList_nil (aa (wp_seq (ab (Ls rfl ha fun a ha=>?_))));refine wpList_nil (aa (wp_seq (wp_seq (ab (Lm rfl ha fun a ha=>?_)))));refine wpList_nil (aa (wp_block ?_));have hS:=hS.cons_none (en:=noEnt) rfl;have hS:=hS.cons_none (en:=noEnt) rfl;refine aM (fun nn_ a w=> ∃(H19: PHeap),∃(k: Nat),∃(hh: HS),∃(LL: List Ent),∃(xs_0: List Wd),∃(en_0: Ent),∃(A_0: Option Addr),∃(c_0: Nat),∃(xs_1: List TV),∃(en_1: Ent),∃(A_1: Option Addr),∃(c_1: Nat),Le H12 H19∧nn_=20 - k∧Has [] a 143 [(0,(iV n)),(3,(pB b1)),(5,(pB p9)),(8,(.slice A_0 xs_0.length c_0)),(9,(.slice A_1 xs_1.length c_1)),(65,(iV ((k: Nat): Int)))]∧Step w0 H [] w H19 (en_1::en_0::en13::(some b1,(.cells (tA t A c) 46 (0,0)))::LL)∧(Row (.slice A_0 xs_0.length c_0) en_0 34 4 xs_0.length (gfl Wd.cells xs_0))∧(Row (.slice A_1 xs_1.length c_1) en_1 46 4 xs_1.length (flat xs_1))∧(AllR H19 xs_1)∧(xs_0=vwL k)∧(xs_1.map TV.t=vtL k)∧(HK p9 hh LL)∧(VS hh (Int.toNat n) k)∧(k≤20)) _ ⟨H12,0,hs11,L9, [],noEnt,none,0, [],noEnt,none,0,Le.refl _,rfl,ha.pk rfl,hS,(Row.nil _ _),(Row.nil _ _),(AllR.nil _),rfl,rfl,hK9,hv0_,(by omega)⟩ ?_;intro n19 a w hh;obtain⟨H19,k,hh,LL,xs_0,en_0,A_0,c_0,xs_1,en_1,A_1,c_1,hle19,hn19,ha,hS,hR_0,hR_1,hA_1,hws,hwt,hK,hVS,hk⟩:=hh;have hr:=hr.mono hle19;have hwl_: xs_0.length=k:=by rw [hws,fO]
       have hwl2_: xs_1.length=k:=by rw [← List.length_map (f:=TV.t),hwt,cY]
       refine wp_seq (ab (lin rfl (aO (i:=((k: Nat): Int)) (j:=20) ha rfl rfl rfl fun a ha=>?_)));refine wpList_nil (aa (wp_seq (aj (t:=66) ha rfl (fun h20 ha=>?_) (fun h20 ha=>?_))))
       ·refine ap ha rfl (wp_skip (aa (wp_seq (wp_block (wp_seq ?_)))))
        by_cases hkn_: k < Int.toNat n
        ·obtain⟨h1_,e1_,hv1_⟩:=hVS.var hkn_;refine ab (Lm rfl ha fun a ha=>?_);have hk22:=eX (hS.tail [en_1,en_0,en13,(some b1,(.cells (tA t A c) 46 (0,0)))]) hK hVS.ok;rw [e1_] at hk22;dsimp only at hk22;refine lin rfl (aw func27 rfl rfl (ha.evs rfl) ha rfl (hk22) ?_);rintro e w ⟨L21,rfl,hK21,hc21⟩;refine⟨_,rfl,fun a ha=>?_⟩;have hS:=hS.frameR [en_1,en_0,en13,(some b1,(.cells (tA t A c) 46 (0,0)))] hc21;have hO23: HS.Ok h1_:=hv1_.ok;refine Lm rfl ha fun a ha=>?_;refine lin rfl (af (v:=(.agg #[(iV 4),(iV ((k: Nat): Int)),(.string (⟨#[]⟩)),(.bool true)])) ha rfl rfl rfl fun a ha=>?_);refine lin rfl (af (v:=(iV 0)) ha rfl rfl rfl fun a ha=>?_);refine lin rfl (aC (cs:= #[(iV 0),(iV 0),(.string (⟨#[]⟩)),(.bool false)]) T34 hS ha rfl rfl fun b24 a w hS ha=>?_);refine lin rfl (ao (cs':= #[(iV 4),(iV ((k: Nat): Int)),(.string (⟨#[]⟩)),(.bool true)]) T34 hS (i:=0) rfl ha rfl rfl rfl rfl rfl rfl fun a w hS ha=>?_);refine Ls rfl ha fun a ha=>?_;refine wpList_nil (aa (wp_seq (wp_seq (ab (Lm rfl ha fun a ha=>?_)))));refine lin rfl (br (i:=0) (j:=0) ha rfl rfl rfl fun a ha=>?_);refine wpList_nil (aa (ah ha rfl (wp_skip (aa (?_)))));have hS:=hS.front 2 rfl;have hS_:=hS;refine As.c_draw_head (ini:=(As.il [(3, [en_0])])) (sup:=(As.sl [])) (als:= [3]) (s0:=⟨H19,fun _=>none⟩) (L:=((some b24,(.cells #[(iV 4),(iV ((k: Nat): Int)),(.string (⟨#[]⟩)),(.bool true)] 34 (0,0)))::en_1::en13::(some b1,(.cells (tA t A c) 46 (0,0)))::L21)) (N:=143) (E:= [(0,(iV n)),(3,(pB b1)),(5,(pB p9)),(8,(.slice A_0 xs_0.length c_0)),(9,(.slice A_1 xs_1.length c_1)),(10,(pB b24)),(65,(iV ((k: Nat): Int)))]) 9 [FcV (.slice A_0 xs_0.length c_0),FcV (.agg #[(iV 4),(iV ((k: Nat): Int)),(.string (⟨#[]⟩)),(.bool true)]),As.lf (fun H v=> ∃ b,v=.slice (some ⟨b,0,none⟩) 1 1∧H b=some (.cells #[(iV 4),(iV ((k: Nat): Int)),(.string (⟨#[]⟩)),(.bool true)] 34 (0,0))),fun s v=> ∃(A: Option Addr) (c: Nat) (en: Ent),s.ax 3=some [en]∧v=.slice A ((xs_0++([(Wd.mk 4 ((k: Nat): Int) ⟨#[]⟩ true)]: List Wd)).length) c∧Row (.slice A ((xs_0++([(Wd.mk 4 ((k: Nat): Int) ⟨#[]⟩ true)]: List Wd)).length) c) en 34 4 ((xs_0++([(Wd.mk 4 ((k: Nat): Int) ⟨#[]⟩ true)]: List Wd)).length) (gfl Wd.cells (xs_0++([(Wd.mk 4 ((k: Nat): Int) ⟨#[]⟩ true)]: List Wd))),FcV (.slice A_1 xs_1.length c_1),FcV (.pointer (some ⟨b24,1,none⟩)),FcV (iV ((k: Nat): Int)),FcV (.agg #[(iV 1),(iV ((k: Nat): Int)),(.string (⟨#[]⟩)),(.slice none 0 0)]),As.lf (fun H v=> ∃ A c,v=.slice A 1 c∧RowT H A c [(Tm.mk 1 ((k: Nat): Int) (⟨#[]⟩) [])])] mixed (by kernel_rfl) (by kernel_rfl) (by kernel_rfl) (by repeat' (first | exact As.Monos.nil | refine As.Monos.cons ?_ ?_ |(intro _ _ _ hl h;exact h) |(rintro _ _ _ hl ⟨A,c,h,hr⟩;exact⟨A,c,h,hr.mono hl.le⟩) |(rintro _ _ _ hl ⟨b,h,hb⟩;exact⟨b,h,hl.le _ _ hb⟩) | exact fun _ _ _ hl ⟨A,c,en,h,e⟩=>⟨A,c,en,hl.get h,e⟩)) (fun _=>rfl) hS (ha.pk rfl) (As.QuietsI.cons ?_ (As.QuietsI.cons ?_ (As.QuietsI.cons ?_ (As.QuietsI.cons ?_ (As.QuietsI.cons ?_ (As.QuietsI.cons ?_ (As.QuietsI.cons ?_ (As.QuietsI.cons ?_ (As.QuietsI.cons ?_ (As.QuietsI.nil)))))))))) (fun f_ a w s_ hls hS ha hdr_=>?_)
         ·refine As.Qx rfl fun a w H_ ax_ hle hax_ hS ha hd hls=>?_;have hSf:=hS;refine id (aq ha rfl rfl fun a ha=>?_);exact As.qdone (s:=⟨H_,ax_⟩) (Le.refl _) ha hSf rfl
         ·refine As.Qx rfl fun a w H_ ax_ hle hax_ hS ha hd hls=>?_;have hSf:=hS;have hS:=Step.dropN _ _ hS;refine id (an (vs:= [(iV 4),(iV ((k: Nat): Int)),(.string (⟨#[]⟩)),(.bool true)]) T34 rfl ha rfl (hS.blkL 0 rfl) rfl (ak rfl) rfl fun a ha=>?_);exact As.qdone (s:=⟨H_,ax_⟩) (Le.refl _) ha hSf rfl
         ·refine As.Qx rfl fun a w H_ ax_ hle hax_ hS ha hd hls=>?_;obtain⟨_,ha,rfl⟩:=hd.g ha 1 rfl;have hSf:=hS;have hSr:=Step.dropN _ _ hS;refine id (bi (vs:= [(0,(.agg #[(iV 4),(iV ((k: Nat): Int)),(.string (⟨#[]⟩)),(.bool true)]))]) (cells:= [(iV 4),(iV ((k: Nat): Int)),(.string (⟨#[]⟩)),(.bool true)]) T29.und T34 hS ha (ha.evp rfl) rfl rfl rfl rfl fun b26 a w hS ha=>?_);obtain⟨H26,hS,hle26,hb26⟩:=hS.give;exact As.qdone (s:=⟨H_,ax_⟩) hle26 ha hS ⟨_,rfl,hb26⟩
         ·refine As.Qx rfl fun a w H_ ax_ hle hax_ hS ha hd hls=>?_;obtain⟨_,ha,rfl⟩:=hd.g ha 0 rfl;obtain⟨_,ha,b26,rfl,hb26⟩:=hd.g ha 2 rfl;have hS: Step w0 H [] w H_ (en_0::(As.aents (As.il [(3, [en_0])]) (As.sl []) [] ax_++As.aents (As.il [(3, [en_0])]) (As.sl []) [] ax_++((some b24,(.cells #[(iV 4),(iV ((k: Nat): Int)),(.string (⟨#[]⟩)),(.bool true)] 34 (0,0)))::en_1::en13::(some b1,(.cells (tA t A c) 46 (0,0)))::L21))):=As.opn (s:=⟨H_,ax_⟩) [] [3] [] [en_0] rfl (As.con0s hax_ rfl) hS;obtain⟨brd28,offrd28,erd28,csrd28,fzrd28,h1rd28,h2rd28⟩:=(RowG.of_lit Wd.len ([(Wd.mk 4 ((k: Nat): Int) ⟨#[]⟩ true)]: List Wd) hb26 (by simp) rfl).2.2;refine id (aW (news:=(gfl Wd.cells ([(Wd.mk 4 ((k: Nat): Int) ⟨#[]⟩ true)]: List Wd))) (xs:=(gfl Wd.cells xs_0)) T29.und T34 rfl rfl hS hR_0 ha rfl rfl (aR Wd.len _) (fun hn=>⟨brd28,offrd28,erd28,csrd28,fzrd28,(h1rd28 (fun h_=>hn (by rw [h_];rfl))).1,hS.blkH (h1rd28 (fun h_=>hn (by rw [h_];rfl))).2,fun j u hj=>eO Wd.len (by decide) h2rd28 hj⟩) (dW Wd.one' _) (by omega) rfl rfl fun v27 en27 a w hR27 hS ha=>?_);rw [← bP] at hR27;obtain⟨A27,c27,rfl⟩:=hR27.slice;have hn_:(xs_0.length+1)=(xs_0++([(Wd.mk 4 ((k: Nat): Int) ⟨#[]⟩ true)]: List Wd)).length:=by have h_:=hR27.1;rw [aR Wd.len] at h_;omega
          rw [show Value.slice A27 (xs_0.length+1) c27=Value.slice A27 (xs_0++([(Wd.mk 4 ((k: Nat): Int) ⟨#[]⟩ true)]: List Wd)).length c27 from by rw [hn_]] at ha;rw [hn_] at hR27;exact As.qown (i:=3) (dst:=some 79) (s:=⟨H_,ax_⟩) (E:= [en27]) [] [3] [] rfl rfl hax_ (Le.refl _) ha.dfr (As.has_at ha) hS As.con1 ⟨_,_,_,rfl,rfl,hR27⟩
         ·refine As.Qx rfl fun a w H_ ax_ hle hax_ hS ha hd hls=>?_;have hSf:=hS;refine id (aq ha rfl rfl fun a ha=>?_);exact As.qdone (s:=⟨H_,ax_⟩) (Le.refl _) ha hSf rfl
         ·refine As.Qx rfl fun a w H_ ax_ hle hax_ hS ha hd hls=>?_;have hSf:=hS;refine id (ac (f:=1) (o2:=1) T34 T3 rfl rfl rfl rfl ha rfl rfl fun a ha=>?_);exact As.qdone (s:=⟨H_,ax_⟩) (Le.refl _) ha hSf rfl
         ·refine As.Qx rfl fun a w H_ ax_ hle hax_ hS ha hd hls=>?_;obtain⟨_,ha,rfl⟩:=hd.g ha 5 rfl;have hSf:=hS;have hS:=Step.dropN _ _ hS;refine id (ae (v:=(iV ((k: Nat): Int))) T3 rfl ha rfl (hS.blkL 0 rfl) rfl rfl fun a ha=>?_);exact As.qdone (s:=⟨H_,ax_⟩) (Le.refl _) ha hSf rfl
         ·refine As.Qx rfl fun a w H_ ax_ hle hax_ hS ha hd hls=>?_;obtain⟨_,ha,rfl⟩:=hd.g ha 6 rfl;have hSf:=hS;refine id (aD (vs:= [(0,(iV 1)),(1,(iV ((k: Nat): Int)))]) (cells:= [(iV 1),(iV ((k: Nat): Int)),(.string (⟨#[]⟩)),(.slice none 0 0)]) T46 PL46 ha (ha.evp rfl) rfl rfl fun a ha=>?_);exact As.qdone (s:=⟨H_,ax_⟩) (Le.refl _) ha hSf rfl
         ·refine As.Qx rfl fun a w H_ ax_ hle hax_ hS ha hd hls=>?_;obtain⟨_,ha,rfl⟩:=hd.g ha 7 rfl;have hSf:=hS;have hSr:=Step.dropN _ _ hS;refine id (bi (vs:= [(0,(.agg #[(iV 1),(iV ((k: Nat): Int)),(.string (⟨#[]⟩)),(.slice none 0 0)]))]) (cells:= [(iV 1),(iV ((k: Nat): Int)),(.string (⟨#[]⟩)),(.slice none 0 0)]) T44.und T46 hS ha (ha.evp rfl) rfl rfl rfl rfl fun b29 a w hS ha=>?_);obtain⟨H29,hS,hle29,hb29⟩:=hS.give;have hr29: RowT H29 (some ⟨b29,0,none⟩) 1 [(Tm.mk 1 ((k: Nat): Int) (⟨#[]⟩) [])]:=RowT.of_lit ([⟨(Tm.mk 1 ((k: Nat): Int) (⟨#[]⟩) []),none,0⟩]: List TV) hb29 (AllR.cons (RowT.nil _) (AllR.nil _)) (by simp) rfl;exact As.qdone (s:=⟨H_,ax_⟩) hle29 ha hS ⟨_,_,rfl,hr29⟩
         obtain⟨H30,ax_⟩:=s_;have hle30: Le H19 H30:=hls.le;dsimp only at hdr_ hS;have hA_1:=hA_1.mono hle30;obtain⟨_,hv_,A27,c27,en27,hx_27,rfl,hR27⟩:=hdr_ 3 _ _ rfl rfl;have ha:=ha.add (hv_ _ rfl);have hx_27: ax_ 3=some [en27]:=hx_27;obtain⟨_,hv_,rfl⟩:=hdr_ 4 _ _ rfl rfl;have ha:=ha.add (hv_ _ rfl);obtain⟨_,hv_,A29,c29,rfl,hr29⟩:=hdr_ 8 _ _ rfl rfl;have ha:=ha.add (hv_ _ rfl);have hS: Step w0 H [] w H30 (en27::(some b24,(.cells #[(iV 4),(iV ((k: Nat): Int)),(.string (⟨#[]⟩)),(.bool true)] 34 (0,0)))::en_1::en13::(some b1,(.cells (tA t A c) 46 (0,0)))::L21):=by
          have h_:=hS;unfold As.aents at h_;simp only [List.flatMap_cons,List.flatMap_nil,As.conE,show (As.sl []) 3=none from rfl,hx_27,Option.isSome_some,Option.getD_some,cond_true,cond_false,List.cons_append,List.nil_append,List.append_nil] at h_;exact h_
         have hS:=hS.front 2 rfl;obtain⟨xs31,hx31,hA31,hs31⟩:=hr29.tvs;refine any1 (i:=9) (by kernel_rfl) rfl rfl (aW (news:=(flat xs31)) (xs:=(flat xs_1)) T44.und T46 rfl rfl hS hR_1 ha rfl rfl (by have h_:=tvs_len hx31;simpa using h_) (fun hn=>by obtain⟨b,o,e,cs,fz,h1,h2,h3⟩:=hs31 hn;exact⟨b,o,e,cs,fz,h1,hS.blkH h2,h3⟩) (fo _) (by omega) rfl rfl fun v31 en31 a w hR31 hS ha=>?_);rw [← cn] at hR31;obtain⟨A31,c31,rfl⟩:=hR31.slice;have hn_:(xs_1.length+1)=(xs_1++xs31).length:=by have h_:=hR31.1;rw [a7] at h_;omega
         rw [show Value.slice A31 (xs_1.length+1) c31=Value.slice A31 (xs_1++xs31).length c31 from by rw [hn_]] at ha;rw [hn_] at hR31;refine any1 (i:=10) (by kernel_rfl) rfl rfl (bg ha rfl rfl fun a ha=>?_);refine any1 (i:=11) (by kernel_rfl) rfl rfl (bg ha rfl rfl fun a ha=>?_);refine any0 (by kernel_rfl) ?_;refine au (aa (ab (lin rfl (aE (i:=((k: Nat): Int)) (j:=1) ha rfl rfl rfl (by omega) fun a ha=>?_))));refine Lm rfl ha fun a ha=>?_;refine wpList_nil (aa (?_));have hS:=hS.front 2 rfl;have hS:=hS.drop;exact⟨20 - (k+1),by omega,H30,(k+1),h1_,L21,(xs_0++([(Wd.mk 4 ((k: Nat): Int) ⟨#[]⟩ true)]: List Wd)),en27,A27,c27,(xs_1++xs31),en31,A31,c31,(hle19.trans (hle30)),rfl,ha.pk rfl,hS,hR27,hR31,(AllR.append hA_1 hA31),(by rw [hws,vwL_succ]),(by rw [List.map_append,hwt,hx31,vtL_succ]),hK21,hv1_,(by omega)⟩
        ·have hful_:=hVS.full hkn_;refine ab (Lm rfl ha fun a ha=>?_);have hk33:=eX (hS.tail [en_1,en_0,en13,(some b1,(.cells (tA t A c) 46 (0,0)))]) hK hVS.ok;rw [hful_] at hk33;dsimp only at hk33;refine lin rfl (aw func27 rfl rfl (ha.evs rfl) ha rfl (hk33) ?_);rintro e w ⟨L32,rfl,hK32,hc32⟩;refine⟨_,rfl,fun a ha=>?_⟩;have hS:=hS.frameR [en_1,en_0,en13,(some b1,(.cells (tA t A c) 46 (0,0)))] hc32;have hO34: HS.Ok hh:=hVS.ok;refine Lm rfl ha fun a ha=>?_;refine lin rfl (af (v:=(.agg #[(iV ((Wd.zero).tag)),(iV ((Wd.zero).n)),(.string ((Wd.zero).s)),(.bool ((Wd.zero).one))])) ha rfl rfl rfl fun a ha=>?_);refine lin rfl (af (v:=(iV 210)) ha rfl rfl rfl fun a ha=>?_);refine lin rfl (aC (cs:= #[(iV 0),(iV 0),(.string (⟨#[]⟩)),(.bool false)]) T34 hS ha rfl rfl fun b35 a w hS ha=>?_);refine lin rfl (ao (cs':= #[(iV ((Wd.zero).tag)),(iV ((Wd.zero).n)),(.string ((Wd.zero).s)),(.bool ((Wd.zero).one))]) T34 hS (i:=0) rfl ha rfl rfl rfl rfl rfl rfl fun a w hS ha=>?_);refine Ls rfl ha fun a ha=>?_;refine wpList_nil (aa (wp_seq (wp_seq (ab (Lm rfl ha fun a ha=>?_)))));refine lin rfl (br (i:=210) (j:=0) ha rfl rfl rfl fun a ha=>?_);refine wpList_nil (aa (ap ha rfl (wp_seq (ab (Lm rfl ha fun a ha=>?_)))));refine lin rfl (aP (i:=210) (j:=210) ha rfl rfl rfl fun a ha=>?_);refine Ls rfl ha fun a ha=>?_;refine wpList_nil (aa (wp_ret (ag (aA (ag (ag (aA (ag (ret1 rfl ha rfl ?_)))))))));exact⟨_,by first | rfl | simp,hS.drop_all⟩
       ·refine ah ha rfl (wp_exit (ar (ar (aF (aa (wp_seq ?_))))));obtain rfl: k=20:=by omega
        obtain⟨HX37,A37,c37,hv37,hS,hle37,hrt37⟩:=hR_1.release (hS.front 0 rfl) hA_1 (by omega);have hll_: xs_1.length=(vtL 20).length:=by rw [cY];exact hwl2_
        rw [hv37,hll_] at ha;rw [hwt] at hrt37;have hr:=hr.mono hle37;refine ab (lin rfl (aC (cs:= #[(iV 0)]) T3 hS ha rfl rfl fun b38 a w hS ha=>?_));refine lin rfl (ao (cs':= #[(iV 0)]) T3 hS (i:=0) rfl ha rfl rfl rfl rfl rfl rfl fun a w hS ha=>?_);refine wpList_nil (aa (wp_seq (ab (lin rfl (aC (cs:= #[.nilFunc]) T59 hS ha rfl rfl fun b40 a w hS ha=>?_)))));refine wpList_nil (aa (wp_seq (ab (lin rfl (bT (fs:= #[]) (cs:= #[(pB b38),(pB b40)]) ha (ha.evs (xs:= []) rfl) (ha.evs rfl) rfl fun a ha=>?_)))));refine lin rfl (ao (cs':= #[(.func (.func 28) #[] #[(pB b38),(pB b40)])]) T59 hS (i:=0) rfl ha rfl rfl rfl rfl rfl rfl fun a w hS ha=>?_);refine wpList_nil (aa (wp_seq (ab (lin rfl (ae (v:=(.func (.func 28) #[] #[(pB b38),(pB b40)])) T59 rfl ha rfl (hS.blkL 0 rfl) rfl rfl fun a ha=>?_)))));refine lin rfl (an (vs:=(tL t A c)) T46 rfl ha rfl (hS.blkL 4 rfl) rfl (ak rfl) rfl fun a ha=>?_);have hS:=hS.front 4 rfl;have hS:=hS.front 4 rfl;have hS:=hS.front 4 rfl;have hS:=hS.front 3 rfl;have hS:=hS.front 4 rfl;have hk43:=c_cells (bn:=b38) (bc:=b40) t _ _ 0 _ _ hr (by omega) (Inv.head [(some b38,(.cells #[(iV 0)] 3 (0,0))),(some b40,(.cells #[(.func (.func 28) #[] #[(pB b38),(pB b40)])] 59 (0,0)))] (B:=(en_0::en13::(some b1,(.cells (tA t A c) 46 (0,0)))::LL)) hS.inv);refine lin rfl (a8 func28 rfl rfl (ha.evs rfl) ha rfl rfl (hk43) ?_);rintro e w ⟨rfl,hc42⟩;refine⟨_,rfl,fun a ha=>?_⟩;rw [Nat.zero_add] at hc42;have hS:=Step.frame (Lc:= [(some b38,(.cells #[(iV 0)] 3 (0,0))),(some b40,(.cells #[(.func (.func 28) #[] #[(pB b38),(pB b40)])] 59 (0,0)))]) (R:=(en_0::en13::(some b1,(.cells (tA t A c) 46 (0,0)))::LL)) hS hc42;refine wpList_nil (aa (wp_seq ?_));have hbb_:=back_law hVS hTm_ hvm_;rw [← hws] at hbb_
        rcases hbb_ with ⟨h5_,hbe_,hu5_,hlt_⟩ |⟨w_,h5_,hbq_,hu5_,hrd_⟩
        ·refine ab (Lm rfl ha fun a ha=>?_);refine lin rfl (an (vs:=(tL t A c)) T46 rfl ha rfl (hS.blkL 4 rfl) rfl (ak rfl) rfl fun a ha=>?_);refine Lm rfl ha fun a ha=>?_;have hk45:=eM (hS.tail [(some b38,(.cells #[(iV (((celT t): Nat): Int))] 3 (0,0))),(some b40,(.cells #[(.func (.func 28) #[] #[(pB b38),(pB b40)])] 59 (0,0))),en_0,en13,(some b1,(.cells (tA t A c) 46 (0,0)))]) hK hVS.ok hr (RdG.of_ownR [(some b38,(.cells #[(iV (((celT t): Nat): Int))] 3 (0,0))),(some b40,(.cells #[(.func (.func 28) #[] #[(pB b38),(pB b40)])] 59 (0,0))),en_0,en13,(some b1,(.cells (tA t A c) 46 (0,0)))] Wd.len (by decide) (i:=2) rfl hS.inv hR_0 (by omega));rw [hbe_] at hk45;dsimp only at hk45;refine lin rfl (aw func29 rfl rfl (ha.evs rfl) ha rfl (hk45) ?_);rintro e w ⟨H44,L44,rfl,hK44,hc44⟩;refine⟨_,rfl,fun a ha=>?_⟩;have hS:=hS.frameR [(some b38,(.cells #[(iV (((celT t): Nat): Int))] 3 (0,0))),(some b40,(.cells #[(.func (.func 28) #[] #[(pB b38),(pB b40)])] 59 (0,0))),en_0,en13,(some b1,(.cells (tA t A c) 46 (0,0)))] hc44;have hO46: HS.Ok h5_:=(show HS.Ok h5_ by have h_:=HS.Ok.build hVS.ok t xs_0;rw [hbe_] at h_;exact h_);refine Lm rfl ha fun a ha=>?_;refine lin rfl (af (v:=(.agg #[(iV ((Wd.zero).tag)),(iV ((Wd.zero).n)),(.string ((Wd.zero).s)),(.bool ((Wd.zero).one))])) ha rfl rfl rfl fun a ha=>?_);refine lin rfl (af (v:=(iV 210)) ha rfl rfl rfl fun a ha=>?_);refine lin rfl (aC (cs:= #[(iV 0),(iV 0),(.string (⟨#[]⟩)),(.bool false)]) T34 hS ha rfl rfl fun b47 a w hS ha=>?_);refine lin rfl (ao (cs':= #[(iV ((Wd.zero).tag)),(iV ((Wd.zero).n)),(.string ((Wd.zero).s)),(.bool ((Wd.zero).one))]) T34 hS (i:=0) rfl ha rfl rfl rfl rfl rfl rfl fun a w hS ha=>?_);refine Ls rfl ha fun a ha=>?_;refine wpList_nil (aa (wp_seq (wp_seq (ab (Lm rfl ha fun a ha=>?_)))));refine lin rfl (br (i:=210) (j:=0) ha rfl rfl rfl fun a ha=>?_);refine wpList_nil (aa (ap ha rfl (wp_seq (ab (Lm rfl ha fun a ha=>?_)))));refine lin rfl (aP (i:=210) (j:=210) ha rfl rfl rfl fun a ha=>?_);refine Lm rfl ha fun a ha=>?_;refine ad rfl ha rfl rfl rfl (ae (v:=(iV (((celT t): Nat): Int))) T3 rfl ha rfl (hS.blkL 1 rfl) rfl rfl fun a ha=>?_);refine ad rfl ha rfl rfl rfl (aE (i:=20) (j:=(((celT t): Nat): Int)) ha rfl rfl rfl (by omega) fun a ha=>?_);refine ad rfl ha rfl rfl rfl (aq ha rfl rfl fun a ha=>?_);refine ad rfl ha rfl rfl rfl (cJ (i:=(20+(((celT t): Nat): Int))) (j:=n) ha rfl rfl rfl fun a ha=>?_);rw [decide_eq_true (by omega)] at ha;refine lin rfl (am ha rfl rfl rfl fun a ha=>?_);refine Lm rfl ha fun a ha=>?_;refine ad rfl ha rfl rfl rfl (aq ha rfl rfl fun a ha=>?_);have hk50:=dN (hS.tail [(some b47,(.cells #[(iV ((Wd.zero).tag)),(iV ((Wd.zero).n)),(.string ((Wd.zero).s)),(.bool ((Wd.zero).one))] 34 (0,0))),(some b38,(.cells #[(iV (((celT t): Nat): Int))] 3 (0,0))),(some b40,(.cells #[(.func (.func 28) #[] #[(pB b38),(pB b40)])] 59 (0,0))),en_0,en13,(some b1,(.cells (tA t A c) 46 (0,0)))]) hK44;rw [hu5_] at hk50;refine ad rfl ha rfl rfl rfl (aw func17 rfl rfl (ha.evs rfl) ha rfl (hk50) ?_);rintro e w ⟨rfl,hc49⟩;refine⟨_,rfl,fun a ha=>?_⟩;have hS:=hS.frameR [(some b47,(.cells #[(iV ((Wd.zero).tag)),(iV ((Wd.zero).n)),(.string ((Wd.zero).s)),(.bool ((Wd.zero).one))] 34 (0,0))),(some b38,(.cells #[(iV (((celT t): Nat): Int))] 3 (0,0))),(some b40,(.cells #[(.func (.func 28) #[] #[(pB b38),(pB b40)])] 59 (0,0))),en_0,en13,(some b1,(.cells (tA t A c) 46 (0,0)))] hc49;refine ad rfl ha rfl rfl rfl (aP (i:=20) (j:=20) ha rfl rfl rfl fun a ha=>?_);refine lin rfl (am ha rfl rfl rfl fun a ha=>?_);refine Ls rfl ha fun a ha=>?_;refine wpList_nil (aa (wp_ret (ag (ret1 rfl ha rfl ?_))));exact⟨_,by first | rfl | simp,hS.drop_all⟩
        ·refine ab (Lm rfl ha fun a ha=>?_);refine lin rfl (an (vs:=(tL t A c)) T46 rfl ha rfl (hS.blkL 4 rfl) rfl (ak rfl) rfl fun a ha=>?_);refine Lm rfl ha fun a ha=>?_;have hk52:=eM (hS.tail [(some b38,(.cells #[(iV (((celT t): Nat): Int))] 3 (0,0))),(some b40,(.cells #[(.func (.func 28) #[] #[(pB b38),(pB b40)])] 59 (0,0))),en_0,en13,(some b1,(.cells (tA t A c) 46 (0,0)))]) hK hVS.ok hr (RdG.of_ownR [(some b38,(.cells #[(iV (((celT t): Nat): Int))] 3 (0,0))),(some b40,(.cells #[(.func (.func 28) #[] #[(pB b38),(pB b40)])] 59 (0,0))),en_0,en13,(some b1,(.cells (tA t A c) 46 (0,0)))] Wd.len (by decide) (i:=2) rfl hS.inv hR_0 (by omega));rw [hbq_] at hk52;dsimp only at hk52;refine lin rfl (aw func29 rfl rfl (ha.evs rfl) ha rfl (hk52) ?_);rintro e w ⟨H51,L51,rfl,hK51,hc51⟩;refine⟨_,rfl,fun a ha=>?_⟩;have hS:=hS.frameR [(some b38,(.cells #[(iV (((celT t): Nat): Int))] 3 (0,0))),(some b40,(.cells #[(.func (.func 28) #[] #[(pB b38),(pB b40)])] 59 (0,0))),en_0,en13,(some b1,(.cells (tA t A c) 46 (0,0)))] hc51;have hr:=hr.mono hc51.le;have hrt37:=hrt37.mono hc51.le;have hO53: HS.Ok h5_:=(show HS.Ok h5_ by have h_:=HS.Ok.build hVS.ok t xs_0;rw [hbq_] at h_;exact h_);refine Lm rfl ha fun a ha=>?_;refine lin rfl (af (v:=(.agg #[(iV w_.tag),(iV w_.n),(.string w_.s),(.bool w_.one)])) ha rfl rfl rfl fun a ha=>?_);refine lin rfl (af (v:=(iV 0)) ha rfl rfl rfl fun a ha=>?_);refine lin rfl (aC (cs:= #[(iV 0),(iV 0),(.string (⟨#[]⟩)),(.bool false)]) T34 hS ha rfl rfl fun b54 a w hS ha=>?_);refine lin rfl (ao (cs':= #[(iV w_.tag),(iV w_.n),(.string w_.s),(.bool w_.one)]) T34 hS (i:=0) rfl ha rfl rfl rfl rfl rfl rfl fun a w hS ha=>?_);refine Ls rfl ha fun a ha=>?_;refine wpList_nil (aa (wp_seq (wp_seq (ab (Lm rfl ha fun a ha=>?_)))));refine lin rfl (br (i:=0) (j:=0) ha rfl rfl rfl fun a ha=>?_);refine wpList_nil (aa (ah ha rfl (wp_skip (aa (wp_seq (ab (Lm rfl ha fun a ha=>?_)))))));refine lin rfl (an (vs:= [(iV w_.tag),(iV w_.n),(.string w_.s),(.bool w_.one)]) T34 rfl ha rfl (hS.blkL 0 rfl) rfl (ak rfl) rfl fun a ha=>?_);have hk57:=ga (hS.tail [(some b54,(.cells #[(iV w_.tag),(iV w_.n),(.string w_.s),(.bool w_.one)] 34 (0,0))),(some b38,(.cells #[(iV (((celT t): Nat): Int))] 3 (0,0))),(some b40,(.cells #[(.func (.func 28) #[] #[(pB b38),(pB b40)])] 59 (0,0))),en_0,en13,(some b1,(.cells (tA t A c) 46 (0,0)))]) hK51 (x:=w_);rw [hrd_] at hk57;dsimp only at hk57;refine lin rfl (aw func20 rfl rfl (ha.evs rfl) ha rfl (hk57) ?_);rintro e w ⟨H56,A56,c56,rfl,hr56,hc56⟩;refine⟨_,rfl,fun a ha=>?_⟩;have hS:=hS.frameR [(some b54,(.cells #[(iV w_.tag),(iV w_.n),(.string w_.s),(.bool w_.one)] 34 (0,0))),(some b38,(.cells #[(iV (((celT t): Nat): Int))] 3 (0,0))),(some b40,(.cells #[(.func (.func 28) #[] #[(pB b38),(pB b40)])] 59 (0,0))),en_0,en13,(some b1,(.cells (tA t A c) 46 (0,0)))] hc56;have hr:=hr.mono hc56.le;have hrt37:=hrt37.mono hc56.le;refine Lm rfl ha fun a ha=>?_;refine lin rfl (af (v:=(tv ((apT (vtL 20) t)) A56 c56)) ha rfl rfl rfl fun a ha=>?_);refine lin rfl (af (v:=(iV 0)) ha rfl rfl rfl fun a ha=>?_);refine lin rfl (aC (cs:=aZ) T46 hS ha rfl rfl fun b58 a w hS ha=>?_);refine lin rfl (ao (cs':=(tA ((apT (vtL 20) t)) A56 c56)) T46 hS (i:=0) rfl ha rfl rfl rfl rfl rfl rfl fun a w hS ha=>?_);refine Ls rfl ha fun a ha=>?_;refine wpList_nil (aa (wp_seq (ab (lin rfl (an (vs:=(tL t A c)) T46 rfl ha rfl (hS.blkL 6 rfl) rfl (ak rfl) rfl fun a ha=>?_)))));refine Lm rfl ha fun a ha=>?_;have hk61:=c_R1Subst (B:=vtL 20) hS.inv.nil hr (vtL_VT (by omega)) hrt37 (by rw [cY];omega) hok hb (back_hn hTm_ hvm_);refine lin rfl (aw func30 rfl rfl (ha.evs rfl) ha rfl (hk61) ?_);rintro e w ⟨H60,A60,c60,rfl,hr60,hc60⟩;refine⟨_,rfl,fun a ha=>?_⟩;have hS:=hS.call hc60;have hr:=hr.mono hc60.le;have hr56:=hr56.mono hc60.le;refine Lm rfl ha fun a ha=>?_;refine lin rfl (af (v:=(tv ((apT (vtL 20) t)) A60 c60)) ha rfl rfl rfl fun a ha=>?_);refine lin rfl (af (v:=(iV 0)) ha rfl rfl rfl fun a ha=>?_);refine lin rfl (aC (cs:=aZ) T46 hS ha rfl rfl fun b62 a w hS ha=>?_);refine lin rfl (ao (cs':=(tA ((apT (vtL 20) t)) A60 c60)) T46 hS (i:=0) rfl ha rfl rfl rfl rfl rfl rfl fun a w hS ha=>?_);refine Ls rfl ha fun a ha=>?_;refine wpList_nil (aa (wp_seq ?_));have hS_:=hS;refine bO bp [FcV (iV 0),FcV (.bool true),FcV (.bool true),FcV (iV 0),FcV (.bool true),FcV (.bool true),FcV (.bool true),FcV (tv ((apT (vtL 20) t)) A56 c56),FcV (tv ((apT (vtL 20) t)) A60 c60),FcV (.bool true),FcV (.bool true),FcV (.bool true),FcV (pB p9),FcV (iV (20+((celT t: Nat): Int))),FcV (iV (((celT t): Nat): Int)),FcV (iV (20+(((celT t): Nat): Int))),FcV (.bool true),FcV (.bool true),FcV (.bool true)] (N:=143) (E:= [(5,(pB p9)),(6,(iV 0)),(12,(pB b38)),(15,(pB b58)),(16,(pB b62)),(17,(iV 0))]) mixed (by kernel_rfl) (by repeat' (first | exact Monos.nil | refine Monos.cons ?_ ?_ |(intro _ _ _ hl h;exact h) |(rintro _ _ _ hl ⟨A,c,h,hr⟩;exact⟨A,c,h,hr.mono hl⟩) |(rintro _ _ _ hl ⟨b,h,hb⟩;exact⟨b,h,hl _ _ hb⟩))) hS (ha.pk rfl) (.cons ?_ (.cons ?_ (.cons ?_ (.cons ?_ (.cons ?_ (.cons ?_ (.cons ?_ (.cons ?_ (.cons ?_ (.cons ?_ (.cons ?_ (.cons ?_ (.cons ?_ (.cons ?_ (.cons ?_ (.cons ?_ (.cons ?_ (.cons ?_ (.cons ?_ (.nil)))))))))))))))))))) (fun a w H67 hle67 hS ha hdr_=>?_)
         ·refine Qz rfl fun a w hS ha hd=>?_;refine id (aq ha rfl rfl fun a ha=>?_);exact qdone rfl ha hS rfl
         ·refine Qz rfl fun a w hS ha hd=>?_;obtain⟨_,ha,rfl⟩:=hd.g ha 0 rfl;refine id (aP (i:=0) (j:=0) ha rfl rfl rfl fun a ha=>?_);exact qdone rfl ha hS rfl
         ·refine Qz rfl fun a w hS ha hd=>?_;obtain⟨_,ha,rfl⟩:=hd.g ha 1 rfl;refine id (aq ha rfl rfl fun a ha=>?_);exact qdone rfl ha hS rfl
         ·intro a w H_ hle hS ha hd;subst hle;obtain⟨_,ha,rfl⟩:=hd.g ha 2 rfl;rw [if_pos (ay rfl ha rfl rfl rfl)];refine id (aq ha rfl rfl fun a ha=>?_);exact qdone rfl ha hS rfl
         ·intro a w H_ hle hS ha hd;subst hle;obtain⟨_,ha,rfl⟩:=hd.g ha 3 rfl;obtain⟨_,ha,rfl⟩:=hd.g ha 2 rfl;rw [if_pos (ay rfl ha rfl rfl rfl)];refine id (aP (i:=0) (j:=0) ha rfl rfl rfl fun a ha=>?_);exact qdone rfl ha hS rfl
         ·refine Qz rfl fun a w hS ha hd=>?_;obtain⟨_,ha,rfl⟩:=hd.g ha 2 rfl;obtain⟨_,ha,rfl⟩:=hd.g ha 4 rfl;refine id (am ha rfl rfl rfl fun a ha=>?_);exact qdone rfl ha hS rfl
         ·refine Qz rfl fun a w hS ha hd=>?_;obtain⟨_,ha,rfl⟩:=hd.g ha 5 rfl;refine id (aq ha rfl rfl fun a ha=>?_);exact qdone rfl ha hS rfl
         ·intro a w H_ hle hS ha hd;subst hle;obtain⟨_,ha,rfl⟩:=hd.g ha 6 rfl;rw [if_pos (ay rfl ha rfl rfl rfl)];refine id (an (vs:=(tL ((apT (vtL 20) t)) A56 c56)) T46 rfl ha rfl (hS.blkL 1 rfl) rfl (ak rfl) rfl fun a ha=>?_);exact qdone rfl ha hS rfl
         ·intro a w H_ hle hS ha hd;subst hle;obtain⟨_,ha,rfl⟩:=hd.g ha 6 rfl;rw [if_pos (ay rfl ha rfl rfl rfl)];refine id (an (vs:=(tL ((apT (vtL 20) t)) A60 c60)) T46 rfl ha rfl (hS.blkL 0 rfl) rfl (ak rfl) rfl fun a ha=>?_);exact qdone rfl ha hS rfl
         ·intro a w H_ hle hS ha hd;subst hle;obtain⟨_,ha,rfl⟩:=hd.g ha 7 rfl;obtain⟨_,ha,rfl⟩:=hd.g ha 8 rfl;obtain⟨_,ha,rfl⟩:=hd.g ha 6 rfl;rw [if_pos (ay rfl ha rfl rfl rfl)];have hk64:=c_sameTerms (ta:=(apT (vtL 20) t)) (tb:=(apT (vtL 20) t)) hS.inv.nil hr56 hr60;rw [show eqT (apT (vtL 20) t) (apT (vtL 20) t)=true from (dx _ _).2 rfl] at hk64;refine id (aw func22 rfl rfl (ha.evs rfl) ha rfl (hk64) ?_);rintro e w ⟨rfl,hc⟩;refine⟨_,rfl,fun a ha=>?_⟩;have hS:=hS.call hc;exact qdone rfl ha hS rfl
         ·refine Qz rfl fun a w hS ha hd=>?_;obtain⟨_,ha,rfl⟩:=hd.g ha 6 rfl;obtain⟨_,ha,rfl⟩:=hd.g ha 9 rfl;refine id (am ha rfl rfl rfl fun a ha=>?_);exact qdone rfl ha hS rfl
         ·refine Qz rfl fun a w hS ha hd=>?_;obtain⟨_,ha,rfl⟩:=hd.g ha 10 rfl;refine id (aq ha rfl rfl fun a ha=>?_);exact qdone rfl ha hS rfl
         ·intro a w H_ hle hS ha hd;subst hle;obtain⟨_,ha,rfl⟩:=hd.g ha 11 rfl;rw [if_pos (ay rfl ha rfl rfl rfl)];refine id (aq ha rfl rfl fun a ha=>?_);exact qdone rfl ha hS rfl
         ·intro a w H_ hle hS ha hd;subst hle;obtain⟨_,ha,rfl⟩:=hd.g ha 12 rfl;obtain⟨_,ha,rfl⟩:=hd.g ha 11 rfl;rw [if_pos (ay rfl ha rfl rfl rfl)];have hk66:=dN (hS.tail [(some b62,(.cells (tA ((apT (vtL 20) t)) A60 c60) 46 (0,0))),(some b58,(.cells (tA ((apT (vtL 20) t)) A56 c56) 46 (0,0))),(some b54,(.cells #[(iV w_.tag),(iV w_.n),(.string w_.s),(.bool w_.one)] 34 (0,0))),(some b38,(.cells #[(iV (((celT t): Nat): Int))] 3 (0,0))),(some b40,(.cells #[(.func (.func 28) #[] #[(pB b38),(pB b40)])] 59 (0,0))),en_0,en13,(some b1,(.cells (tA t A c) 46 (0,0)))]) hK51;rw [hu5_] at hk66;refine id (aw func17 rfl rfl (ha.evs rfl) ha rfl (hk66) ?_);rintro e w ⟨rfl,hc65⟩;refine⟨_,rfl,fun a ha=>?_⟩;have hS:=hS.frameR [(some b62,(.cells (tA ((apT (vtL 20) t)) A60 c60) 46 (0,0))),(some b58,(.cells (tA ((apT (vtL 20) t)) A56 c56) 46 (0,0))),(some b54,(.cells #[(iV w_.tag),(iV w_.n),(.string w_.s),(.bool w_.one)] 34 (0,0))),(some b38,(.cells #[(iV (((celT t): Nat): Int))] 3 (0,0))),(some b40,(.cells #[(.func (.func 28) #[] #[(pB b38),(pB b40)])] 59 (0,0))),en_0,en13,(some b1,(.cells (tA t A c) 46 (0,0)))] hc65;exact qdone rfl ha hS rfl
         ·intro a w H_ hle hS ha hd;subst hle;obtain⟨_,ha,rfl⟩:=hd.g ha 11 rfl;rw [if_pos (ay rfl ha rfl rfl rfl)];refine id (ae (v:=(iV (((celT t): Nat): Int))) T3 rfl ha rfl (hS.blkL 3 rfl) rfl rfl fun a ha=>?_);exact qdone rfl ha hS rfl
         ·intro a w H_ hle hS ha hd;subst hle;obtain⟨_,ha,rfl⟩:=hd.g ha 14 rfl;obtain⟨_,ha,rfl⟩:=hd.g ha 11 rfl;rw [if_pos (ay rfl ha rfl rfl rfl)];refine id (aE (i:=20) (j:=(((celT t): Nat): Int)) ha rfl rfl rfl (by omega) fun a ha=>?_);exact qdone rfl ha hS rfl
         ·intro a w H_ hle hS ha hd;subst hle;obtain⟨_,ha,rfl⟩:=hd.g ha 13 rfl;obtain⟨_,ha,rfl⟩:=hd.g ha 15 rfl;obtain⟨_,ha,rfl⟩:=hd.g ha 11 rfl;rw [if_pos (ay rfl ha rfl rfl rfl)];refine id (aP (i:=(20+((celT t: Nat): Int))) (j:=(20+(((celT t): Nat): Int))) ha rfl rfl rfl fun a ha=>?_);rw [decide_eq_true (by omega)] at ha;exact qdone rfl ha hS rfl
         ·refine Qz rfl fun a w hS ha hd=>?_;obtain⟨_,ha,rfl⟩:=hd.g ha 11 rfl;obtain⟨_,ha,rfl⟩:=hd.g ha 16 rfl;refine id (am ha rfl rfl rfl fun a ha=>?_);exact qdone rfl ha hS rfl
         ·refine Qz rfl fun a w hS ha hd=>?_;obtain⟨_,ha,rfl⟩:=hd.g ha 17 rfl;refine id (bg ha rfl rfl fun a ha=>?_);exact qdone rfl ha hS rfl
         subst hle67;obtain⟨_,ha,rfl⟩:=Dd ha hdr_ 18 rfl;refine aa (wp_ret (ret1 rfl ha rfl ?_));exact⟨_,by first | rfl | simp,hS.drop_all⟩
     ·refine Lf rfl ha rfl rfl fun a ha=>?_;refine Lf rfl ha rfl rfl fun a ha=>?_;refine Lf rfl ha rfl rfl fun a ha=>?_;refine ad rfl ha rfl rfl rfl (ai ha rfl rfl rfl fun a ha=>?_);refine lin rfl (ai ha rfl rfl rfl fun a ha=>?_);refine wpList_nil (aa (ah ha rfl (wp_skip (aa (wp_seq ?_)))));have hvm_:=vars_max (t:=t) (n:=20) (by rintro⟨h1_,h2_⟩;omega);refine ab (Ls rfl ha fun a ha=>?_);refine wpList_nil (aa (wp_seq (ab (Ls rfl ha fun a ha=>?_))));refine wpList_nil (aa (wp_seq (wp_seq (ab (Lm rfl ha fun a ha=>?_)))));refine wpList_nil (aa (wp_block ?_));have hS:=hS.cons_none (en:=noEnt) rfl;have hS:=hS.cons_none (en:=noEnt) rfl;refine aM (fun nn_ a w=> ∃(H70: PHeap),∃(k: Nat),∃(hh: HS),∃(LL: List Ent),∃(xs_0: List Wd),∃(en_0: Ent),∃(A_0: Option Addr),∃(c_0: Nat),∃(xs_1: List TV),∃(en_1: Ent),∃(A_1: Option Addr),∃(c_1: Nat),Le H12 H70∧nn_=20 - k∧Has [] a 143 [(0,(iV n)),(3,(pB b1)),(5,(pB p9)),(8,(.slice A_0 xs_0.length c_0)),(9,(.slice A_1 xs_1.length c_1)),(65,(iV ((k: Nat): Int)))]∧Step w0 H [] w H70 (en_1::en_0::en13::(some b1,(.cells (tA t A c) 46 (0,0)))::LL)∧(Row (.slice A_0 xs_0.length c_0) en_0 34 4 xs_0.length (gfl Wd.cells xs_0))∧(Row (.slice A_1 xs_1.length c_1) en_1 46 4 xs_1.length (flat xs_1))∧(AllR H70 xs_1)∧(xs_0=vwL k)∧(xs_1.map TV.t=vtL k)∧(HK p9 hh LL)∧(VS hh (Int.toNat n) k)∧(k≤20)) _ ⟨H12,0,hs11,L9, [],noEnt,none,0, [],noEnt,none,0,Le.refl _,rfl,ha.pk rfl,hS,(Row.nil _ _),(Row.nil _ _),(AllR.nil _),rfl,rfl,hK9,hv0_,(by omega)⟩ ?_;intro n70 a w hh;obtain⟨H70,k,hh,LL,xs_0,en_0,A_0,c_0,xs_1,en_1,A_1,c_1,hle70,hn70,ha,hS,hR_0,hR_1,hA_1,hws,hwt,hK,hVS,hk⟩:=hh;have hr:=hr.mono hle70;have hwl_: xs_0.length=k:=by rw [hws,fO]
      have hwl2_: xs_1.length=k:=by rw [← List.length_map (f:=TV.t),hwt,cY]
      refine wp_seq (ab (lin rfl (aO (i:=((k: Nat): Int)) (j:=20) ha rfl rfl rfl fun a ha=>?_)));refine wpList_nil (aa (wp_seq (aj (t:=66) ha rfl (fun h71 ha=>?_) (fun h71 ha=>?_))))
      ·refine ap ha rfl (wp_skip (aa (wp_seq (wp_block (wp_seq ?_)))))
       by_cases hkn_: k < Int.toNat n
       ·obtain⟨h1_,e1_,hv1_⟩:=hVS.var hkn_;refine ab (Lm rfl ha fun a ha=>?_);have hk73:=eX (hS.tail [en_1,en_0,en13,(some b1,(.cells (tA t A c) 46 (0,0)))]) hK hVS.ok;rw [e1_] at hk73;dsimp only at hk73;refine lin rfl (aw func27 rfl rfl (ha.evs rfl) ha rfl (hk73) ?_);rintro e w ⟨L72,rfl,hK72,hc72⟩;refine⟨_,rfl,fun a ha=>?_⟩;have hS:=hS.frameR [en_1,en_0,en13,(some b1,(.cells (tA t A c) 46 (0,0)))] hc72;have hO74: HS.Ok h1_:=hv1_.ok;refine Lm rfl ha fun a ha=>?_;refine lin rfl (af (v:=(.agg #[(iV 4),(iV ((k: Nat): Int)),(.string (⟨#[]⟩)),(.bool true)])) ha rfl rfl rfl fun a ha=>?_);refine lin rfl (af (v:=(iV 0)) ha rfl rfl rfl fun a ha=>?_);refine lin rfl (aC (cs:= #[(iV 0),(iV 0),(.string (⟨#[]⟩)),(.bool false)]) T34 hS ha rfl rfl fun b75 a w hS ha=>?_);refine lin rfl (ao (cs':= #[(iV 4),(iV ((k: Nat): Int)),(.string (⟨#[]⟩)),(.bool true)]) T34 hS (i:=0) rfl ha rfl rfl rfl rfl rfl rfl fun a w hS ha=>?_);refine Ls rfl ha fun a ha=>?_;refine wpList_nil (aa (wp_seq (wp_seq (ab (Lm rfl ha fun a ha=>?_)))));refine lin rfl (br (i:=0) (j:=0) ha rfl rfl rfl fun a ha=>?_);refine wpList_nil (aa (ah ha rfl (wp_skip (aa (?_)))));have hS:=hS.front 2 rfl;have hS_:=hS;refine As.c_draw_head (ini:=(As.il [(3, [en_0])])) (sup:=(As.sl [])) (als:= [3]) (s0:=⟨H70,fun _=>none⟩) (L:=((some b75,(.cells #[(iV 4),(iV ((k: Nat): Int)),(.string (⟨#[]⟩)),(.bool true)] 34 (0,0)))::en_1::en13::(some b1,(.cells (tA t A c) 46 (0,0)))::L72)) (N:=143) (E:= [(0,(iV n)),(3,(pB b1)),(5,(pB p9)),(8,(.slice A_0 xs_0.length c_0)),(9,(.slice A_1 xs_1.length c_1)),(10,(pB b75)),(65,(iV ((k: Nat): Int)))]) 9 [FcV (.slice A_0 xs_0.length c_0),FcV (.agg #[(iV 4),(iV ((k: Nat): Int)),(.string (⟨#[]⟩)),(.bool true)]),As.lf (fun H v=> ∃ b,v=.slice (some ⟨b,0,none⟩) 1 1∧H b=some (.cells #[(iV 4),(iV ((k: Nat): Int)),(.string (⟨#[]⟩)),(.bool true)] 34 (0,0))),fun s v=> ∃(A: Option Addr) (c: Nat) (en: Ent),s.ax 3=some [en]∧v=.slice A ((xs_0++([(Wd.mk 4 ((k: Nat): Int) ⟨#[]⟩ true)]: List Wd)).length) c∧Row (.slice A ((xs_0++([(Wd.mk 4 ((k: Nat): Int) ⟨#[]⟩ true)]: List Wd)).length) c) en 34 4 ((xs_0++([(Wd.mk 4 ((k: Nat): Int) ⟨#[]⟩ true)]: List Wd)).length) (gfl Wd.cells (xs_0++([(Wd.mk 4 ((k: Nat): Int) ⟨#[]⟩ true)]: List Wd))),FcV (.slice A_1 xs_1.length c_1),FcV (.pointer (some ⟨b75,1,none⟩)),FcV (iV ((k: Nat): Int)),FcV (.agg #[(iV 1),(iV ((k: Nat): Int)),(.string (⟨#[]⟩)),(.slice none 0 0)]),As.lf (fun H v=> ∃ A c,v=.slice A 1 c∧RowT H A c [(Tm.mk 1 ((k: Nat): Int) (⟨#[]⟩) [])])] mixed (by kernel_rfl) (by kernel_rfl) (by kernel_rfl) (by repeat' (first | exact As.Monos.nil | refine As.Monos.cons ?_ ?_ |(intro _ _ _ hl h;exact h) |(rintro _ _ _ hl ⟨A,c,h,hr⟩;exact⟨A,c,h,hr.mono hl.le⟩) |(rintro _ _ _ hl ⟨b,h,hb⟩;exact⟨b,h,hl.le _ _ hb⟩) | exact fun _ _ _ hl ⟨A,c,en,h,e⟩=>⟨A,c,en,hl.get h,e⟩)) (fun _=>rfl) hS (ha.pk rfl) (As.QuietsI.cons ?_ (As.QuietsI.cons ?_ (As.QuietsI.cons ?_ (As.QuietsI.cons ?_ (As.QuietsI.cons ?_ (As.QuietsI.cons ?_ (As.QuietsI.cons ?_ (As.QuietsI.cons ?_ (As.QuietsI.cons ?_ (As.QuietsI.nil)))))))))) (fun f_ a w s_ hls hS ha hdr_=>?_)
        ·refine As.Qx rfl fun a w H_ ax_ hle hax_ hS ha hd hls=>?_;have hSf:=hS;refine id (aq ha rfl rfl fun a ha=>?_);exact As.qdone (s:=⟨H_,ax_⟩) (Le.refl _) ha hSf rfl
        ·refine As.Qx rfl fun a w H_ ax_ hle hax_ hS ha hd hls=>?_;have hSf:=hS;have hS:=Step.dropN _ _ hS;refine id (an (vs:= [(iV 4),(iV ((k: Nat): Int)),(.string (⟨#[]⟩)),(.bool true)]) T34 rfl ha rfl (hS.blkL 0 rfl) rfl (ak rfl) rfl fun a ha=>?_);exact As.qdone (s:=⟨H_,ax_⟩) (Le.refl _) ha hSf rfl
        ·refine As.Qx rfl fun a w H_ ax_ hle hax_ hS ha hd hls=>?_;obtain⟨_,ha,rfl⟩:=hd.g ha 1 rfl;have hSf:=hS;have hSr:=Step.dropN _ _ hS;refine id (bi (vs:= [(0,(.agg #[(iV 4),(iV ((k: Nat): Int)),(.string (⟨#[]⟩)),(.bool true)]))]) (cells:= [(iV 4),(iV ((k: Nat): Int)),(.string (⟨#[]⟩)),(.bool true)]) T29.und T34 hS ha (ha.evp rfl) rfl rfl rfl rfl fun b77 a w hS ha=>?_);obtain⟨H77,hS,hle77,hb77⟩:=hS.give;exact As.qdone (s:=⟨H_,ax_⟩) hle77 ha hS ⟨_,rfl,hb77⟩
        ·refine As.Qx rfl fun a w H_ ax_ hle hax_ hS ha hd hls=>?_;obtain⟨_,ha,rfl⟩:=hd.g ha 0 rfl;obtain⟨_,ha,b77,rfl,hb77⟩:=hd.g ha 2 rfl;have hS: Step w0 H [] w H_ (en_0::(As.aents (As.il [(3, [en_0])]) (As.sl []) [] ax_++As.aents (As.il [(3, [en_0])]) (As.sl []) [] ax_++((some b75,(.cells #[(iV 4),(iV ((k: Nat): Int)),(.string (⟨#[]⟩)),(.bool true)] 34 (0,0)))::en_1::en13::(some b1,(.cells (tA t A c) 46 (0,0)))::L72))):=As.opn (s:=⟨H_,ax_⟩) [] [3] [] [en_0] rfl (As.con0s hax_ rfl) hS;obtain⟨brd79,offrd79,erd79,csrd79,fzrd79,h1rd79,h2rd79⟩:=(RowG.of_lit Wd.len ([(Wd.mk 4 ((k: Nat): Int) ⟨#[]⟩ true)]: List Wd) hb77 (by simp) rfl).2.2;refine id (aW (news:=(gfl Wd.cells ([(Wd.mk 4 ((k: Nat): Int) ⟨#[]⟩ true)]: List Wd))) (xs:=(gfl Wd.cells xs_0)) T29.und T34 rfl rfl hS hR_0 ha rfl rfl (aR Wd.len _) (fun hn=>⟨brd79,offrd79,erd79,csrd79,fzrd79,(h1rd79 (fun h_=>hn (by rw [h_];rfl))).1,hS.blkH (h1rd79 (fun h_=>hn (by rw [h_];rfl))).2,fun j u hj=>eO Wd.len (by decide) h2rd79 hj⟩) (dW Wd.one' _) (by omega) rfl rfl fun v78 en78 a w hR78 hS ha=>?_);rw [← bP] at hR78;obtain⟨A78,c78,rfl⟩:=hR78.slice;have hn_:(xs_0.length+1)=(xs_0++([(Wd.mk 4 ((k: Nat): Int) ⟨#[]⟩ true)]: List Wd)).length:=by have h_:=hR78.1;rw [aR Wd.len] at h_;omega
         rw [show Value.slice A78 (xs_0.length+1) c78=Value.slice A78 (xs_0++([(Wd.mk 4 ((k: Nat): Int) ⟨#[]⟩ true)]: List Wd)).length c78 from by rw [hn_]] at ha;rw [hn_] at hR78;exact As.qown (i:=3) (dst:=some 79) (s:=⟨H_,ax_⟩) (E:= [en78]) [] [3] [] rfl rfl hax_ (Le.refl _) ha.dfr (As.has_at ha) hS As.con1 ⟨_,_,_,rfl,rfl,hR78⟩
        ·refine As.Qx rfl fun a w H_ ax_ hle hax_ hS ha hd hls=>?_;have hSf:=hS;refine id (aq ha rfl rfl fun a ha=>?_);exact As.qdone (s:=⟨H_,ax_⟩) (Le.refl _) ha hSf rfl
        ·refine As.Qx rfl fun a w H_ ax_ hle hax_ hS ha hd hls=>?_;have hSf:=hS;refine id (ac (f:=1) (o2:=1) T34 T3 rfl rfl rfl rfl ha rfl rfl fun a ha=>?_);exact As.qdone (s:=⟨H_,ax_⟩) (Le.refl _) ha hSf rfl
        ·refine As.Qx rfl fun a w H_ ax_ hle hax_ hS ha hd hls=>?_;obtain⟨_,ha,rfl⟩:=hd.g ha 5 rfl;have hSf:=hS;have hS:=Step.dropN _ _ hS;refine id (ae (v:=(iV ((k: Nat): Int))) T3 rfl ha rfl (hS.blkL 0 rfl) rfl rfl fun a ha=>?_);exact As.qdone (s:=⟨H_,ax_⟩) (Le.refl _) ha hSf rfl
        ·refine As.Qx rfl fun a w H_ ax_ hle hax_ hS ha hd hls=>?_;obtain⟨_,ha,rfl⟩:=hd.g ha 6 rfl;have hSf:=hS;refine id (aD (vs:= [(0,(iV 1)),(1,(iV ((k: Nat): Int)))]) (cells:= [(iV 1),(iV ((k: Nat): Int)),(.string (⟨#[]⟩)),(.slice none 0 0)]) T46 PL46 ha (ha.evp rfl) rfl rfl fun a ha=>?_);exact As.qdone (s:=⟨H_,ax_⟩) (Le.refl _) ha hSf rfl
        ·refine As.Qx rfl fun a w H_ ax_ hle hax_ hS ha hd hls=>?_;obtain⟨_,ha,rfl⟩:=hd.g ha 7 rfl;have hSf:=hS;have hSr:=Step.dropN _ _ hS;refine id (bi (vs:= [(0,(.agg #[(iV 1),(iV ((k: Nat): Int)),(.string (⟨#[]⟩)),(.slice none 0 0)]))]) (cells:= [(iV 1),(iV ((k: Nat): Int)),(.string (⟨#[]⟩)),(.slice none 0 0)]) T44.und T46 hS ha (ha.evp rfl) rfl rfl rfl rfl fun b80 a w hS ha=>?_);obtain⟨H80,hS,hle80,hb80⟩:=hS.give;have hr80: RowT H80 (some ⟨b80,0,none⟩) 1 [(Tm.mk 1 ((k: Nat): Int) (⟨#[]⟩) [])]:=RowT.of_lit ([⟨(Tm.mk 1 ((k: Nat): Int) (⟨#[]⟩) []),none,0⟩]: List TV) hb80 (AllR.cons (RowT.nil _) (AllR.nil _)) (by simp) rfl;exact As.qdone (s:=⟨H_,ax_⟩) hle80 ha hS ⟨_,_,rfl,hr80⟩
        obtain⟨H81,ax_⟩:=s_;have hle81: Le H70 H81:=hls.le;dsimp only at hdr_ hS;have hA_1:=hA_1.mono hle81;obtain⟨_,hv_,A78,c78,en78,hx_78,rfl,hR78⟩:=hdr_ 3 _ _ rfl rfl;have ha:=ha.add (hv_ _ rfl);have hx_78: ax_ 3=some [en78]:=hx_78;obtain⟨_,hv_,rfl⟩:=hdr_ 4 _ _ rfl rfl;have ha:=ha.add (hv_ _ rfl);obtain⟨_,hv_,A80,c80,rfl,hr80⟩:=hdr_ 8 _ _ rfl rfl;have ha:=ha.add (hv_ _ rfl);have hS: Step w0 H [] w H81 (en78::(some b75,(.cells #[(iV 4),(iV ((k: Nat): Int)),(.string (⟨#[]⟩)),(.bool true)] 34 (0,0)))::en_1::en13::(some b1,(.cells (tA t A c) 46 (0,0)))::L72):=by
         have h_:=hS;unfold As.aents at h_;simp only [List.flatMap_cons,List.flatMap_nil,As.conE,show (As.sl []) 3=none from rfl,hx_78,Option.isSome_some,Option.getD_some,cond_true,cond_false,List.cons_append,List.nil_append,List.append_nil] at h_;exact h_
        have hS:=hS.front 2 rfl;obtain⟨xs82,hx82,hA82,hs82⟩:=hr80.tvs;refine any1 (i:=9) (by kernel_rfl) rfl rfl (aW (news:=(flat xs82)) (xs:=(flat xs_1)) T44.und T46 rfl rfl hS hR_1 ha rfl rfl (by have h_:=tvs_len hx82;simpa using h_) (fun hn=>by obtain⟨b,o,e,cs,fz,h1,h2,h3⟩:=hs82 hn;exact⟨b,o,e,cs,fz,h1,hS.blkH h2,h3⟩) (fo _) (by omega) rfl rfl fun v82 en82 a w hR82 hS ha=>?_);rw [← cn] at hR82;obtain⟨A82,c82,rfl⟩:=hR82.slice;have hn_:(xs_1.length+1)=(xs_1++xs82).length:=by have h_:=hR82.1;rw [a7] at h_;omega
        rw [show Value.slice A82 (xs_1.length+1) c82=Value.slice A82 (xs_1++xs82).length c82 from by rw [hn_]] at ha;rw [hn_] at hR82;refine any1 (i:=10) (by kernel_rfl) rfl rfl (bg ha rfl rfl fun a ha=>?_);refine any1 (i:=11) (by kernel_rfl) rfl rfl (bg ha rfl rfl fun a ha=>?_);refine any0 (by kernel_rfl) ?_;refine au (aa (ab (lin rfl (aE (i:=((k: Nat): Int)) (j:=1) ha rfl rfl rfl (by omega) fun a ha=>?_))));refine Lm rfl ha fun a ha=>?_;refine wpList_nil (aa (?_));have hS:=hS.front 2 rfl;have hS:=hS.drop;exact⟨20 - (k+1),by omega,H81,(k+1),h1_,L72,(xs_0++([(Wd.mk 4 ((k: Nat): Int) ⟨#[]⟩ true)]: List Wd)),en78,A78,c78,(xs_1++xs82),en82,A82,c82,(hle70.trans (hle81)),rfl,ha.pk rfl,hS,hR78,hR82,(AllR.append hA_1 hA82),(by rw [hws,vwL_succ]),(by rw [List.map_append,hwt,hx82,vtL_succ]),hK72,hv1_,(by omega)⟩
       ·have hful_:=hVS.full hkn_;refine ab (Lm rfl ha fun a ha=>?_);have hk84:=eX (hS.tail [en_1,en_0,en13,(some b1,(.cells (tA t A c) 46 (0,0)))]) hK hVS.ok;rw [hful_] at hk84;dsimp only at hk84;refine lin rfl (aw func27 rfl rfl (ha.evs rfl) ha rfl (hk84) ?_);rintro e w ⟨L83,rfl,hK83,hc83⟩;refine⟨_,rfl,fun a ha=>?_⟩;have hS:=hS.frameR [en_1,en_0,en13,(some b1,(.cells (tA t A c) 46 (0,0)))] hc83;have hO85: HS.Ok hh:=hVS.ok;refine Lm rfl ha fun a ha=>?_;refine lin rfl (af (v:=(.agg #[(iV ((Wd.zero).tag)),(iV ((Wd.zero).n)),(.string ((Wd.zero).s)),(.bool ((Wd.zero).one))])) ha rfl rfl rfl fun a ha=>?_);refine lin rfl (af (v:=(iV 210)) ha rfl rfl rfl fun a ha=>?_);refine lin rfl (aC (cs:= #[(iV 0),(iV 0),(.string (⟨#[]⟩)),(.bool false)]) T34 hS ha rfl rfl fun b86 a w hS ha=>?_);refine lin rfl (ao (cs':= #[(iV ((Wd.zero).tag)),(iV ((Wd.zero).n)),(.string ((Wd.zero).s)),(.bool ((Wd.zero).one))]) T34 hS (i:=0) rfl ha rfl rfl rfl rfl rfl rfl fun a w hS ha=>?_);refine Ls rfl ha fun a ha=>?_;refine wpList_nil (aa (wp_seq (wp_seq (ab (Lm rfl ha fun a ha=>?_)))));refine lin rfl (br (i:=210) (j:=0) ha rfl rfl rfl fun a ha=>?_);refine wpList_nil (aa (ap ha rfl (wp_seq (ab (Lm rfl ha fun a ha=>?_)))));refine lin rfl (aP (i:=210) (j:=210) ha rfl rfl rfl fun a ha=>?_);refine Ls rfl ha fun a ha=>?_;refine wpList_nil (aa (wp_ret (ag (aA (ag (ag (aA (ag (ret1 rfl ha rfl ?_)))))))));exact⟨_,by first | rfl | simp,hS.drop_all⟩
      ·refine ah ha rfl (wp_exit (ar (ar (aF (aa (wp_seq ?_))))));obtain rfl: k=20:=by omega
       obtain⟨HX88,A88,c88,hv88,hS,hle88,hrt88⟩:=hR_1.release (hS.front 0 rfl) hA_1 (by omega);have hll_: xs_1.length=(vtL 20).length:=by rw [cY];exact hwl2_
       rw [hv88,hll_] at ha;rw [hwt] at hrt88;have hr:=hr.mono hle88;refine ab (lin rfl (aC (cs:= #[(iV 0)]) T3 hS ha rfl rfl fun b89 a w hS ha=>?_));refine lin rfl (ao (cs':= #[(iV 0)]) T3 hS (i:=0) rfl ha rfl rfl rfl rfl rfl rfl fun a w hS ha=>?_);refine wpList_nil (aa (wp_seq (ab (lin rfl (aC (cs:= #[.nilFunc]) T59 hS ha rfl rfl fun b91 a w hS ha=>?_)))));refine wpList_nil (aa (wp_seq (ab (lin rfl (bT (fs:= #[]) (cs:= #[(pB b89),(pB b91)]) ha (ha.evs (xs:= []) rfl) (ha.evs rfl) rfl fun a ha=>?_)))));refine lin rfl (ao (cs':= #[(.func (.func 28) #[] #[(pB b89),(pB b91)])]) T59 hS (i:=0) rfl ha rfl rfl rfl rfl rfl rfl fun a w hS ha=>?_);refine wpList_nil (aa (wp_seq (ab (lin rfl (ae (v:=(.func (.func 28) #[] #[(pB b89),(pB b91)])) T59 rfl ha rfl (hS.blkL 0 rfl) rfl rfl fun a ha=>?_)))));refine lin rfl (an (vs:=(tL t A c)) T46 rfl ha rfl (hS.blkL 4 rfl) rfl (ak rfl) rfl fun a ha=>?_);have hS:=hS.front 4 rfl;have hS:=hS.front 4 rfl;have hS:=hS.front 4 rfl;have hS:=hS.front 3 rfl;have hS:=hS.front 4 rfl;have hk94:=c_cells (bn:=b89) (bc:=b91) t _ _ 0 _ _ hr (by omega) (Inv.head [(some b89,(.cells #[(iV 0)] 3 (0,0))),(some b91,(.cells #[(.func (.func 28) #[] #[(pB b89),(pB b91)])] 59 (0,0)))] (B:=(en_0::en13::(some b1,(.cells (tA t A c) 46 (0,0)))::LL)) hS.inv);refine lin rfl (a8 func28 rfl rfl (ha.evs rfl) ha rfl rfl (hk94) ?_);rintro e w ⟨rfl,hc93⟩;refine⟨_,rfl,fun a ha=>?_⟩;rw [Nat.zero_add] at hc93;have hS:=Step.frame (Lc:= [(some b89,(.cells #[(iV 0)] 3 (0,0))),(some b91,(.cells #[(.func (.func 28) #[] #[(pB b89),(pB b91)])] 59 (0,0)))]) (R:=(en_0::en13::(some b1,(.cells (tA t A c) 46 (0,0)))::LL)) hS hc93;refine wpList_nil (aa (wp_seq ?_));have hbb_:=back_law hVS hTm_ hvm_;rw [← hws] at hbb_
       rcases hbb_ with ⟨h5_,hbe_,hu5_,hlt_⟩ |⟨w_,h5_,hbq_,hu5_,hrd_⟩
       ·refine ab (Lm rfl ha fun a ha=>?_);refine lin rfl (an (vs:=(tL t A c)) T46 rfl ha rfl (hS.blkL 4 rfl) rfl (ak rfl) rfl fun a ha=>?_);refine Lm rfl ha fun a ha=>?_;have hk96:=eM (hS.tail [(some b89,(.cells #[(iV (((celT t): Nat): Int))] 3 (0,0))),(some b91,(.cells #[(.func (.func 28) #[] #[(pB b89),(pB b91)])] 59 (0,0))),en_0,en13,(some b1,(.cells (tA t A c) 46 (0,0)))]) hK hVS.ok hr (RdG.of_ownR [(some b89,(.cells #[(iV (((celT t): Nat): Int))] 3 (0,0))),(some b91,(.cells #[(.func (.func 28) #[] #[(pB b89),(pB b91)])] 59 (0,0))),en_0,en13,(some b1,(.cells (tA t A c) 46 (0,0)))] Wd.len (by decide) (i:=2) rfl hS.inv hR_0 (by omega));rw [hbe_] at hk96;dsimp only at hk96;refine lin rfl (aw func29 rfl rfl (ha.evs rfl) ha rfl (hk96) ?_);rintro e w ⟨H95,L95,rfl,hK95,hc95⟩;refine⟨_,rfl,fun a ha=>?_⟩;have hS:=hS.frameR [(some b89,(.cells #[(iV (((celT t): Nat): Int))] 3 (0,0))),(some b91,(.cells #[(.func (.func 28) #[] #[(pB b89),(pB b91)])] 59 (0,0))),en_0,en13,(some b1,(.cells (tA t A c) 46 (0,0)))] hc95;have hO97: HS.Ok h5_:=(show HS.Ok h5_ by have h_:=HS.Ok.build hVS.ok t xs_0;rw [hbe_] at h_;exact h_);refine Lm rfl ha fun a ha=>?_;refine lin rfl (af (v:=(.agg #[(iV ((Wd.zero).tag)),(iV ((Wd.zero).n)),(.string ((Wd.zero).s)),(.bool ((Wd.zero).one))])) ha rfl rfl rfl fun a ha=>?_);refine lin rfl (af (v:=(iV 210)) ha rfl rfl rfl fun a ha=>?_);refine lin rfl (aC (cs:= #[(iV 0),(iV 0),(.string (⟨#[]⟩)),(.bool false)]) T34 hS ha rfl rfl fun b98 a w hS ha=>?_);refine lin rfl (ao (cs':= #[(iV ((Wd.zero).tag)),(iV ((Wd.zero).n)),(.string ((Wd.zero).s)),(.bool ((Wd.zero).one))]) T34 hS (i:=0) rfl ha rfl rfl rfl rfl rfl rfl fun a w hS ha=>?_);refine Ls rfl ha fun a ha=>?_;refine wpList_nil (aa (wp_seq (wp_seq (ab (Lm rfl ha fun a ha=>?_)))));refine lin rfl (br (i:=210) (j:=0) ha rfl rfl rfl fun a ha=>?_);refine wpList_nil (aa (ap ha rfl (wp_seq (ab (Lm rfl ha fun a ha=>?_)))));refine lin rfl (aP (i:=210) (j:=210) ha rfl rfl rfl fun a ha=>?_);refine Lm rfl ha fun a ha=>?_;refine ad rfl ha rfl rfl rfl (ae (v:=(iV (((celT t): Nat): Int))) T3 rfl ha rfl (hS.blkL 1 rfl) rfl rfl fun a ha=>?_);refine ad rfl ha rfl rfl rfl (aE (i:=20) (j:=(((celT t): Nat): Int)) ha rfl rfl rfl (by omega) fun a ha=>?_);refine ad rfl ha rfl rfl rfl (aq ha rfl rfl fun a ha=>?_);refine ad rfl ha rfl rfl rfl (cJ (i:=(20+(((celT t): Nat): Int))) (j:=n) ha rfl rfl rfl fun a ha=>?_);rw [decide_eq_true (by omega)] at ha;refine lin rfl (am ha rfl rfl rfl fun a ha=>?_);refine Lm rfl ha fun a ha=>?_;refine ad rfl ha rfl rfl rfl (aq ha rfl rfl fun a ha=>?_);have hk101:=dN (hS.tail [(some b98,(.cells #[(iV ((Wd.zero).tag)),(iV ((Wd.zero).n)),(.string ((Wd.zero).s)),(.bool ((Wd.zero).one))] 34 (0,0))),(some b89,(.cells #[(iV (((celT t): Nat): Int))] 3 (0,0))),(some b91,(.cells #[(.func (.func 28) #[] #[(pB b89),(pB b91)])] 59 (0,0))),en_0,en13,(some b1,(.cells (tA t A c) 46 (0,0)))]) hK95;rw [hu5_] at hk101;refine ad rfl ha rfl rfl rfl (aw func17 rfl rfl (ha.evs rfl) ha rfl (hk101) ?_);rintro e w ⟨rfl,hc100⟩;refine⟨_,rfl,fun a ha=>?_⟩;have hS:=hS.frameR [(some b98,(.cells #[(iV ((Wd.zero).tag)),(iV ((Wd.zero).n)),(.string ((Wd.zero).s)),(.bool ((Wd.zero).one))] 34 (0,0))),(some b89,(.cells #[(iV (((celT t): Nat): Int))] 3 (0,0))),(some b91,(.cells #[(.func (.func 28) #[] #[(pB b89),(pB b91)])] 59 (0,0))),en_0,en13,(some b1,(.cells (tA t A c) 46 (0,0)))] hc100;refine ad rfl ha rfl rfl rfl (aP (i:=20) (j:=20) ha rfl rfl rfl fun a ha=>?_);refine lin rfl (am ha rfl rfl rfl fun a ha=>?_);refine Ls rfl ha fun a ha=>?_;refine wpList_nil (aa (wp_ret (ag (ret1 rfl ha rfl ?_))));exact⟨_,by first | rfl | simp,hS.drop_all⟩
       ·refine ab (Lm rfl ha fun a ha=>?_);refine lin rfl (an (vs:=(tL t A c)) T46 rfl ha rfl (hS.blkL 4 rfl) rfl (ak rfl) rfl fun a ha=>?_);refine Lm rfl ha fun a ha=>?_;have hk103:=eM (hS.tail [(some b89,(.cells #[(iV (((celT t): Nat): Int))] 3 (0,0))),(some b91,(.cells #[(.func (.func 28) #[] #[(pB b89),(pB b91)])] 59 (0,0))),en_0,en13,(some b1,(.cells (tA t A c) 46 (0,0)))]) hK hVS.ok hr (RdG.of_ownR [(some b89,(.cells #[(iV (((celT t): Nat): Int))] 3 (0,0))),(some b91,(.cells #[(.func (.func 28) #[] #[(pB b89),(pB b91)])] 59 (0,0))),en_0,en13,(some b1,(.cells (tA t A c) 46 (0,0)))] Wd.len (by decide) (i:=2) rfl hS.inv hR_0 (by omega));rw [hbq_] at hk103;dsimp only at hk103;refine lin rfl (aw func29 rfl rfl (ha.evs rfl) ha rfl (hk103) ?_);rintro e w ⟨H102,L102,rfl,hK102,hc102⟩;refine⟨_,rfl,fun a ha=>?_⟩;have hS:=hS.frameR [(some b89,(.cells #[(iV (((celT t): Nat): Int))] 3 (0,0))),(some b91,(.cells #[(.func (.func 28) #[] #[(pB b89),(pB b91)])] 59 (0,0))),en_0,en13,(some b1,(.cells (tA t A c) 46 (0,0)))] hc102;have hr:=hr.mono hc102.le;have hrt88:=hrt88.mono hc102.le;have hO104: HS.Ok h5_:=(show HS.Ok h5_ by have h_:=HS.Ok.build hVS.ok t xs_0;rw [hbq_] at h_;exact h_);refine Lm rfl ha fun a ha=>?_;refine lin rfl (af (v:=(.agg #[(iV w_.tag),(iV w_.n),(.string w_.s),(.bool w_.one)])) ha rfl rfl rfl fun a ha=>?_);refine lin rfl (af (v:=(iV 0)) ha rfl rfl rfl fun a ha=>?_);refine lin rfl (aC (cs:= #[(iV 0),(iV 0),(.string (⟨#[]⟩)),(.bool false)]) T34 hS ha rfl rfl fun b105 a w hS ha=>?_);refine lin rfl (ao (cs':= #[(iV w_.tag),(iV w_.n),(.string w_.s),(.bool w_.one)]) T34 hS (i:=0) rfl ha rfl rfl rfl rfl rfl rfl fun a w hS ha=>?_);refine Ls rfl ha fun a ha=>?_;refine wpList_nil (aa (wp_seq (wp_seq (ab (Lm rfl ha fun a ha=>?_)))));refine lin rfl (br (i:=0) (j:=0) ha rfl rfl rfl fun a ha=>?_);refine wpList_nil (aa (ah ha rfl (wp_skip (aa (wp_seq (ab (Lm rfl ha fun a ha=>?_)))))));refine lin rfl (an (vs:= [(iV w_.tag),(iV w_.n),(.string w_.s),(.bool w_.one)]) T34 rfl ha rfl (hS.blkL 0 rfl) rfl (ak rfl) rfl fun a ha=>?_);have hk108:=ga (hS.tail [(some b105,(.cells #[(iV w_.tag),(iV w_.n),(.string w_.s),(.bool w_.one)] 34 (0,0))),(some b89,(.cells #[(iV (((celT t): Nat): Int))] 3 (0,0))),(some b91,(.cells #[(.func (.func 28) #[] #[(pB b89),(pB b91)])] 59 (0,0))),en_0,en13,(some b1,(.cells (tA t A c) 46 (0,0)))]) hK102 (x:=w_);rw [hrd_] at hk108;dsimp only at hk108;refine lin rfl (aw func20 rfl rfl (ha.evs rfl) ha rfl (hk108) ?_);rintro e w ⟨H107,A107,c107,rfl,hr107,hc107⟩;refine⟨_,rfl,fun a ha=>?_⟩;have hS:=hS.frameR [(some b105,(.cells #[(iV w_.tag),(iV w_.n),(.string w_.s),(.bool w_.one)] 34 (0,0))),(some b89,(.cells #[(iV (((celT t): Nat): Int))] 3 (0,0))),(some b91,(.cells #[(.func (.func 28) #[] #[(pB b89),(pB b91)])] 59 (0,0))),en_0,en13,(some b1,(.cells (tA t A c) 46 (0,0)))] hc107;have hr:=hr.mono hc107.le;have hrt88:=hrt88.mono hc107.le;refine Lm rfl ha fun a ha=>?_;refine lin rfl (af (v:=(tv ((apT (vtL 20) t)) A107 c107)) ha rfl rfl rfl fun a ha=>?_);refine lin rfl (af (v:=(iV 0)) ha rfl rfl rfl fun a ha=>?_);refine lin rfl (aC (cs:=aZ) T46 hS ha rfl rfl fun b109 a w hS ha=>?_);refine lin rfl (ao (cs':=(tA ((apT (vtL 20) t)) A107 c107)) T46 hS (i:=0) rfl ha rfl rfl rfl rfl rfl rfl fun a w hS ha=>?_);refine Ls rfl ha fun a ha=>?_;refine wpList_nil (aa (wp_seq (ab (lin rfl (an (vs:=(tL t A c)) T46 rfl ha rfl (hS.blkL 6 rfl) rfl (ak rfl) rfl fun a ha=>?_)))));refine Lm rfl ha fun a ha=>?_;have hk112:=c_R1Subst (B:=vtL 20) hS.inv.nil hr (vtL_VT (by omega)) hrt88 (by rw [cY];omega) hok hb (back_hn hTm_ hvm_);refine lin rfl (aw func30 rfl rfl (ha.evs rfl) ha rfl (hk112) ?_);rintro e w ⟨H111,A111,c111,rfl,hr111,hc111⟩;refine⟨_,rfl,fun a ha=>?_⟩;have hS:=hS.call hc111;have hr:=hr.mono hc111.le;have hr107:=hr107.mono hc111.le;refine Lm rfl ha fun a ha=>?_;refine lin rfl (af (v:=(tv ((apT (vtL 20) t)) A111 c111)) ha rfl rfl rfl fun a ha=>?_);refine lin rfl (af (v:=(iV 0)) ha rfl rfl rfl fun a ha=>?_);refine lin rfl (aC (cs:=aZ) T46 hS ha rfl rfl fun b113 a w hS ha=>?_);refine lin rfl (ao (cs':=(tA ((apT (vtL 20) t)) A111 c111)) T46 hS (i:=0) rfl ha rfl rfl rfl rfl rfl rfl fun a w hS ha=>?_);refine Ls rfl ha fun a ha=>?_;refine wpList_nil (aa (wp_seq ?_));have hS_:=hS;refine bO bp [FcV (iV 0),FcV (.bool true),FcV (.bool true),FcV (iV 0),FcV (.bool true),FcV (.bool true),FcV (.bool true),FcV (tv ((apT (vtL 20) t)) A107 c107),FcV (tv ((apT (vtL 20) t)) A111 c111),FcV (.bool true),FcV (.bool true),FcV (.bool true),FcV (pB p9),FcV (iV (20+((celT t: Nat): Int))),FcV (iV (((celT t): Nat): Int)),FcV (iV (20+(((celT t): Nat): Int))),FcV (.bool true),FcV (.bool true),FcV (.bool true)] (N:=143) (E:= [(5,(pB p9)),(6,(iV 0)),(12,(pB b89)),(15,(pB b109)),(16,(pB b113)),(17,(iV 0))]) mixed (by kernel_rfl) (by repeat' (first | exact Monos.nil | refine Monos.cons ?_ ?_ |(intro _ _ _ hl h;exact h) |(rintro _ _ _ hl ⟨A,c,h,hr⟩;exact⟨A,c,h,hr.mono hl⟩) |(rintro _ _ _ hl ⟨b,h,hb⟩;exact⟨b,h,hl _ _ hb⟩))) hS (ha.pk rfl) (.cons ?_ (.cons ?_ (.cons ?_ (.cons ?_ (.cons ?_ (.cons ?_ (.cons ?_ (.cons ?_ (.cons ?_ (.cons ?_ (.cons ?_ (.cons ?_ (.cons ?_ (.cons ?_ (.cons ?_ (.cons ?_ (.cons ?_ (.cons ?_ (.cons ?_ (.nil)))))))))))))))))))) (fun a w H118 hle118 hS ha hdr_=>?_)
        ·refine Qz rfl fun a w hS ha hd=>?_;refine id (aq ha rfl rfl fun a ha=>?_);exact qdone rfl ha hS rfl
        ·refine Qz rfl fun a w hS ha hd=>?_;obtain⟨_,ha,rfl⟩:=hd.g ha 0 rfl;refine id (aP (i:=0) (j:=0) ha rfl rfl rfl fun a ha=>?_);exact qdone rfl ha hS rfl
        ·refine Qz rfl fun a w hS ha hd=>?_;obtain⟨_,ha,rfl⟩:=hd.g ha 1 rfl;refine id (aq ha rfl rfl fun a ha=>?_);exact qdone rfl ha hS rfl
        ·intro a w H_ hle hS ha hd;subst hle;obtain⟨_,ha,rfl⟩:=hd.g ha 2 rfl;rw [if_pos (ay rfl ha rfl rfl rfl)];refine id (aq ha rfl rfl fun a ha=>?_);exact qdone rfl ha hS rfl
        ·intro a w H_ hle hS ha hd;subst hle;obtain⟨_,ha,rfl⟩:=hd.g ha 3 rfl;obtain⟨_,ha,rfl⟩:=hd.g ha 2 rfl;rw [if_pos (ay rfl ha rfl rfl rfl)];refine id (aP (i:=0) (j:=0) ha rfl rfl rfl fun a ha=>?_);exact qdone rfl ha hS rfl
        ·refine Qz rfl fun a w hS ha hd=>?_;obtain⟨_,ha,rfl⟩:=hd.g ha 2 rfl;obtain⟨_,ha,rfl⟩:=hd.g ha 4 rfl;refine id (am ha rfl rfl rfl fun a ha=>?_);exact qdone rfl ha hS rfl
        ·refine Qz rfl fun a w hS ha hd=>?_;obtain⟨_,ha,rfl⟩:=hd.g ha 5 rfl;refine id (aq ha rfl rfl fun a ha=>?_);exact qdone rfl ha hS rfl
        ·intro a w H_ hle hS ha hd;subst hle;obtain⟨_,ha,rfl⟩:=hd.g ha 6 rfl;rw [if_pos (ay rfl ha rfl rfl rfl)];refine id (an (vs:=(tL ((apT (vtL 20) t)) A107 c107)) T46 rfl ha rfl (hS.blkL 1 rfl) rfl (ak rfl) rfl fun a ha=>?_);exact qdone rfl ha hS rfl
        ·intro a w H_ hle hS ha hd;subst hle;obtain⟨_,ha,rfl⟩:=hd.g ha 6 rfl;rw [if_pos (ay rfl ha rfl rfl rfl)];refine id (an (vs:=(tL ((apT (vtL 20) t)) A111 c111)) T46 rfl ha rfl (hS.blkL 0 rfl) rfl (ak rfl) rfl fun a ha=>?_);exact qdone rfl ha hS rfl
        ·intro a w H_ hle hS ha hd;subst hle;obtain⟨_,ha,rfl⟩:=hd.g ha 7 rfl;obtain⟨_,ha,rfl⟩:=hd.g ha 8 rfl;obtain⟨_,ha,rfl⟩:=hd.g ha 6 rfl;rw [if_pos (ay rfl ha rfl rfl rfl)];have hk115:=c_sameTerms (ta:=(apT (vtL 20) t)) (tb:=(apT (vtL 20) t)) hS.inv.nil hr107 hr111;rw [show eqT (apT (vtL 20) t) (apT (vtL 20) t)=true from (dx _ _).2 rfl] at hk115;refine id (aw func22 rfl rfl (ha.evs rfl) ha rfl (hk115) ?_);rintro e w ⟨rfl,hc⟩;refine⟨_,rfl,fun a ha=>?_⟩;have hS:=hS.call hc;exact qdone rfl ha hS rfl
        ·refine Qz rfl fun a w hS ha hd=>?_;obtain⟨_,ha,rfl⟩:=hd.g ha 6 rfl;obtain⟨_,ha,rfl⟩:=hd.g ha 9 rfl;refine id (am ha rfl rfl rfl fun a ha=>?_);exact qdone rfl ha hS rfl
        ·refine Qz rfl fun a w hS ha hd=>?_;obtain⟨_,ha,rfl⟩:=hd.g ha 10 rfl;refine id (aq ha rfl rfl fun a ha=>?_);exact qdone rfl ha hS rfl
        ·intro a w H_ hle hS ha hd;subst hle;obtain⟨_,ha,rfl⟩:=hd.g ha 11 rfl;rw [if_pos (ay rfl ha rfl rfl rfl)];refine id (aq ha rfl rfl fun a ha=>?_);exact qdone rfl ha hS rfl
        ·intro a w H_ hle hS ha hd;subst hle;obtain⟨_,ha,rfl⟩:=hd.g ha 12 rfl;obtain⟨_,ha,rfl⟩:=hd.g ha 11 rfl;rw [if_pos (ay rfl ha rfl rfl rfl)];have hk117:=dN (hS.tail [(some b113,(.cells (tA ((apT (vtL 20) t)) A111 c111) 46 (0,0))),(some b109,(.cells (tA ((apT (vtL 20) t)) A107 c107) 46 (0,0))),(some b105,(.cells #[(iV w_.tag),(iV w_.n),(.string w_.s),(.bool w_.one)] 34 (0,0))),(some b89,(.cells #[(iV (((celT t): Nat): Int))] 3 (0,0))),(some b91,(.cells #[(.func (.func 28) #[] #[(pB b89),(pB b91)])] 59 (0,0))),en_0,en13,(some b1,(.cells (tA t A c) 46 (0,0)))]) hK102;rw [hu5_] at hk117;refine id (aw func17 rfl rfl (ha.evs rfl) ha rfl (hk117) ?_);rintro e w ⟨rfl,hc116⟩;refine⟨_,rfl,fun a ha=>?_⟩;have hS:=hS.frameR [(some b113,(.cells (tA ((apT (vtL 20) t)) A111 c111) 46 (0,0))),(some b109,(.cells (tA ((apT (vtL 20) t)) A107 c107) 46 (0,0))),(some b105,(.cells #[(iV w_.tag),(iV w_.n),(.string w_.s),(.bool w_.one)] 34 (0,0))),(some b89,(.cells #[(iV (((celT t): Nat): Int))] 3 (0,0))),(some b91,(.cells #[(.func (.func 28) #[] #[(pB b89),(pB b91)])] 59 (0,0))),en_0,en13,(some b1,(.cells (tA t A c) 46 (0,0)))] hc116;exact qdone rfl ha hS rfl
        ·intro a w H_ hle hS ha hd;subst hle;obtain⟨_,ha,rfl⟩:=hd.g ha 11 rfl;rw [if_pos (ay rfl ha rfl rfl rfl)];refine id (ae (v:=(iV (((celT t): Nat): Int))) T3 rfl ha rfl (hS.blkL 3 rfl) rfl rfl fun a ha=>?_);exact qdone rfl ha hS rfl
        ·intro a w H_ hle hS ha hd;subst hle;obtain⟨_,ha,rfl⟩:=hd.g ha 14 rfl;obtain⟨_,ha,rfl⟩:=hd.g ha 11 rfl;rw [if_pos (ay rfl ha rfl rfl rfl)];refine id (aE (i:=20) (j:=(((celT t): Nat): Int)) ha rfl rfl rfl (by omega) fun a ha=>?_);exact qdone rfl ha hS rfl
        ·intro a w H_ hle hS ha hd;subst hle;obtain⟨_,ha,rfl⟩:=hd.g ha 13 rfl;obtain⟨_,ha,rfl⟩:=hd.g ha 15 rfl;obtain⟨_,ha,rfl⟩:=hd.g ha 11 rfl;rw [if_pos (ay rfl ha rfl rfl rfl)];refine id (aP (i:=(20+((celT t: Nat): Int))) (j:=(20+(((celT t): Nat): Int))) ha rfl rfl rfl fun a ha=>?_);rw [decide_eq_true (by omega)] at ha;exact qdone rfl ha hS rfl
        ·refine Qz rfl fun a w hS ha hd=>?_;obtain⟨_,ha,rfl⟩:=hd.g ha 11 rfl;obtain⟨_,ha,rfl⟩:=hd.g ha 16 rfl;refine id (am ha rfl rfl rfl fun a ha=>?_);exact qdone rfl ha hS rfl
        ·refine Qz rfl fun a w hS ha hd=>?_;obtain⟨_,ha,rfl⟩:=hd.g ha 17 rfl;refine id (bg ha rfl rfl fun a ha=>?_);exact qdone rfl ha hS rfl
        subst hle118;obtain⟨_,ha,rfl⟩:=Dd ha hdr_ 18 rfl;refine aa (wp_ret (ret1 rfl ha rfl ?_));exact⟨_,by first | rfl | simp,hS.drop_all⟩
end Go.Vk.Try
namespace Go.Vk.Try
open Go.ChangeShapes Go.WideShapes Go.ChangeAt Go.RowKit Go.Deep
theorem cells3: Go.Proofs.Try.prog.cellsOf 3=1:=by kernel_rfl
section
variable {H: Type} {enc: TypeId × Value→H} {W: World}
theorem cell_at {a: Addr} {v: Value} (h: W.cell? a=some v): ∃(cs: Array Value) (e: Nat) (fz: Nat × Nat),a=⟨a.block,a.off,none⟩∧W.heap[a.block]? =some (.cells cs e fz)∧cs[a.off]? =some v:=by
 have hs:=World.cell?_spot h;unfold World.cell? at h;rw [hs] at h
 cases hb: W.heap[a.block]? with
 | none=>rw [hb] at h;simp at h
 | some o =>
  rw [hb] at h
  cases o with
  | cells cs e fz =>
   refine⟨cs,e,fz,?_,rfl,by simpa using h⟩
   cases a;simp at hs;simp [hs]
  | _=>simp at h
theorem dG (a: Addr) (k: Nat):(a.add k).block=a.block:=by unfold Addr.add;split <;> rfl
theorem add_off (a: Addr) (k: Nat):(a.add k).off=a.off+k:=by
 unfold Addr.add
 split
 ·omega
 ·rfl
theorem bulk_mem {d: DataW H} {l: List (DataW H)} (h: d ∈ l): Go.Proofs.Ythblpljakpecdaa.Rows.uptoBulk d≤Go.Proofs.Ythblpljakpecdaa.Rows.uptoBulkAll l:=by
 induction l with
 | nil=>cases h
 | cons x r ih =>
  simp only [Go.Proofs.Ythblpljakpecdaa.Rows.uptoBulkAll]
  rcases List.mem_cons.1 h with e | e
  ·subst e;omega
  ·have:=ih e;omega
theorem bulk_len (l: List (DataW H)): l.length≤Go.Proofs.Ythblpljakpecdaa.Rows.uptoBulkAll l:=by
 induction l with
 | nil=>simp
 | cons x r ih =>
  have h1: 1≤Go.Proofs.Ythblpljakpecdaa.Rows.uptoBulk x:=by
   cases x with
   | lit l=>cases l <;> simp [Go.Proofs.Ythblpljakpecdaa.Rows.uptoBulk]
   | _=>simp [Go.Proofs.Ythblpljakpecdaa.Rows.uptoBulk]
  simp only [Go.Proofs.Ythblpljakpecdaa.Rows.uptoBulkAll,List.length_cons];omega
theorem bulk_part {d y: DataW H} (h: y ∈(match d with | .agg ps=>ps | _=> [])): Go.Proofs.Ythblpljakpecdaa.Rows.uptoBulk y < Go.Proofs.Ythblpljakpecdaa.Rows.uptoBulk d:=by
 cases d with
 | agg ps=>change y ∈ ps at h;have:=bulk_mem h;simp only [Go.Proofs.Ythblpljakpecdaa.Rows.uptoBulk];omega
 | _=>cases h
theorem inv_all (W: World): Inv W (fun b=>W.heap[b]?) []:=⟨fun e he=>(by cases he),List.Pairwise.nil,fun k o h=>⟨h,ci⟩⟩
theorem below_of {w: World} {H: PHeap} {H': PHeap} {w': World} (h: Step w H [] w' H' []): Below w.heap.size w w':=⟨h.os,h.tape,h.output,h.size,fun k hk=>h.blk k hk ci⟩
end
end Go.Vk.Try
namespace Go.Vk.Try
open Go.ChangeShapes Go.WideShapes Go.ChangeAt Go.RowKit Go.Deep Go.Proofs.Ythblpljakpecdaa
theorem own: ownKnob Go.Proofs.Try.prog.godebug=none:=by kernel_rfl
theorem laidOut: laidOutB prog=true:=by kernel_rfl
section
variable {H: Type} {enc: TypeId × Value→H} {W: World}
theorem trodAll_stays {W': World} (hb: Below W.heap.size W W') (sp: Nat→Bool): ∀(ts: List TypeId) (vs: List Value) (ds: List (DataW H)) (ps: List MemPlace),(∀ t ∈ ts,Go.Proofs.Try.prog.readableRec t=true∧t < Go.Proofs.Try.prog.types.size)→DataW.TrodAll enc prog W 0 (fun _=>true) true ts vs ds ps→(∀ x ∈ ps,x.block < W.heap.size)→(∀ x ∈ ps,sp x.block=true)→
  DataW.TrodAll enc prog W' 0 sp true ts vs ds ps
 | [], [], [],ps,_,h,_,_=>h
 | [],_::_,_,_,_,h,_,_=>h.elim
 | [], [],_::_,_,_,h,_,_=>h.elim
 | _::_, [],_,_,_,h,_,_=>h.elim
 | _::_,_::_, [],_,_,h,_,_=>h.elim
 | t::ts,v::vs,d::ds,ps,ht,h,hl,hs=>by
  obtain⟨p,q,h1,h2,rfl⟩:=h;refine⟨p,q,WideElems.Trod_stays laidOut (ht t List.mem_cons_self).1 (ht t List.mem_cons_self).2 h1 (fun x hx=>hb.same (hl x (List.mem_append_left _ hx))) (fun x hx=>hs x (List.mem_append_left _ hx)),?_,rfl⟩;exact trodAll_stays hb sp ts vs ds q (fun u hu=>ht u (List.mem_cons_of_mem _ hu)) h2 (fun x hx=>hl x (List.mem_append_right _ hx)) (fun x hx=>hs x (List.mem_append_right _ hx))
theorem open_intV {v: Value} {d: DataW H} {ps: List MemPlace} (h: DataW.Trod enc prog W 0 (fun _=>true) true 3 v d ps) (hv: Value.okWide prog W .any 0 3 v): ∃ i: Int,v=.int .i64 i:=by
 unfold Value.okWide at hv;rw [T3.und] at hv;obtain⟨n,h⟩:=h
 cases v with
 | int k i =>
  obtain⟨j,e,_⟩:=DataW.trod_int T3.und h;have e2: [Value.int k i]= [.int .i64 j]:=e;injection e2 with e3 _
  exact⟨j,e3⟩
 | _=>exfalso;simp [Cell.okWide,Cell.ok,T3.und] at hv
theorem post_old {f: Func} {s: ChangeSpec} {W': World} {args: Array Value} {ds gs: List (DataW H)} {before: List MemPlace} {l: DataW H} {r: Value}
  (hW: DataW.Whole enc prog f.params.toList s.vars false W args.toList ds gs before) (hvs: s.vars= []) (hds:(s.fn H (ds++gs)).args=ds) (hvr:(s.fn H (ds++gs)).vars= [])
  (hres: ∀(b: Nat) (sp: Nat→Bool) (hd: Bool),DataW.TrodAll enc prog W' b sp hd f.resultTypes.toList (r.resultList f.resultTypes.size) (s.fn H (ds++gs)).results [])
  (hb: Below W.heap.size W W') (hts: ∀ t ∈ f.params.toList,Go.Proofs.Try.prog.readableRec t=true∧t < Go.Proofs.Try.prog.types.size)
  (hok: ∀(j: Nat) (t: TypeId) (u: Value),f.resultTypes[j]? =some t→(r.resultList f.resultTypes.size)[j]? =some u→Value.okWide prog W' .any 0 t u) :
  s.post enc prog f false true false false W args r W':=by
 have hlt:=hW.lt;have hW0:=hW;obtain⟨p,q,hA,hV,rfl,hz,hn⟩:=hW0;rw [hvs] at hV;have hargs: ∀ sp: Nat→Bool,(∀ x ∈ p++q,sp x.block=true)→DataW.TrodAll enc prog W' 0 sp true f.params.toList args.toList (s.fn H (ds++gs)).args p:=fun sp hs=>by
  rw [hds];exact trodAll_stays hb sp _ _ _ _ hts hA (fun x hx=>hlt x (List.mem_append_left _ hx)) (fun x hx=>hs x (List.mem_append_left _ hx))
 obtain⟨rfl,rfl⟩:=trodVars_none hV;have hvars: ∀ sp: Nat→Bool,DataW.TrodVars enc prog W' sp s.vars (s.fn H (ds++ [])).vars []:=fun sp=>by rw [hvs,hvr];exact rfl
 have hold: ∀ x ∈ p++ [],(fun b=>decide (b < W.heap.size)) x.block=true:=fun x hx=>by simpa using hlt x hx
 refine⟨ds, [],p++ [], [],p, [],hW,hres _ _ _,hargs _ hold,hvars _,World.keptBut_mono (fun x hx=>⟨hx,.inr (by simpa using hx)⟩) (hb.frame _),fun _=>?_⟩;refine⟨hok,_,_,([]++p)++ [],⟨[]++p, [],trodAll_append (hargs _ (fun _ _=>rfl)) (hres _ _ _),hvars _,rfl,?_,?_⟩,?_⟩
 ·intro b off hp;have hp': MemPlace.cell b off ∈ p++ []:=by simpa using hp
  have h1:=hz b off hp';have h2:=hb.block b (hlt _ hp');unfold World.frozen? at h1 ⊢;rw [h2];exact h1
 ·intro ha;cases ha
 ·intro x hx _;simpa using hx
end
end Go.Vk.Try
namespace Go.Vk.Try
open Go.ChangeShapes Go.WideShapes Go.ChangeAt Go.RowKit Go.Deep Go.Proofs.Ythblpljakpecdaa
theorem cells9: Go.Proofs.Try.prog.cellsOf 9=1:=by kernel_rfl
theorem cells22: Go.Proofs.Try.prog.cellsOf 44=1:=by kernel_rfl
theorem cells26: Go.Proofs.Try.prog.cellsOf 46=4:=by kernel_rfl
section
variable {H: Type} {enc: TypeId × Value→H} {W: World}
theorem open_tm0B {n: Nat} {cs: List Value} {x: DataW H × List MemPlace} (h: DataW.trod enc prog W 0 (fun _=>true) true n 46 cs=some x) :
  ∃(k i: Int) (s: ByteArray) (v: Value) (m: Nat) (y: DataW H × List MemPlace),cs= [.int .i64 k,.int .i64 i,.string s,v]∧DataW.trod enc prog W 0 (fun _=>true) true m 44 [v]=some y∧y.1 ∈(match x.1 with | .agg ps=>ps | _=> [])∧s.size+1+Go.Proofs.Ythblpljakpecdaa.Rows.uptoBulk y.1 < Go.Proofs.Ythblpljakpecdaa.Rows.uptoBulk x.1:=by
 obtain⟨xs,m,_,rfl,hl,hlen,hf⟩:=DataW.trod_struct T46.und h;rw [cells26] at hl
 match cs,hl with
 | [c0,c1,c2,c3],_ =>
  match xs,hlen with
  | [y0,y1,y2,y3],_ =>
   have h0:=hf 0 _ J;have h1:=hf 1 _ J;have h2:=hf 2 _ J;have h3:=hf 3 _ J;simp [cells3,cells9,cells22] at h0 h1 h2 h3;obtain⟨k,e0,_⟩:=DataW.trod_int T3.und h0;obtain⟨i,e1,_⟩:=DataW.trod_int T3.und h1;obtain⟨s,e2,e5,_⟩:=DataW.trod_string T9.und h2;simp only [List.cons.injEq,and_true] at e0 e1 e2;subst e0 e1 e2;have e6: y2.1=.lit (.string s.data.toList):=congrArg Prod.fst e5;refine⟨k,i,s,c3,m,y3,rfl,h3,by simp,?_⟩;simp only [List.map_cons,List.map_nil,Go.Proofs.Ythblpljakpecdaa.Rows.uptoBulk,Go.Proofs.Ythblpljakpecdaa.Rows.uptoBulkAll,e6];have: s.data.toList.length=s.size:=by rw [Array.length_toList];rfl
   omega
theorem open_rowB: ∀(K: Nat) {n: Nat} {v: Value} {y: DataW H × List MemPlace},Go.Proofs.Ythblpljakpecdaa.Rows.uptoBulk y.1≤K→Go.Proofs.Ythblpljakpecdaa.Rows.uptoBulk y.1≤1048576→DataW.trod enc prog W 0 (fun _=>true) true n 44 [v]=some y→
  ∃(A: Option Addr) (ts: List Tm) (c: Nat),v=.slice A ts.length c∧RowT (fun b=>W.heap[b]?) A c ts∧ts.length≤1048576∧Tm.szL ts≤Go.Proofs.Ythblpljakpecdaa.Rows.uptoBulk y.1∧strBL ts=true:=by
 intro K
 induction K with
 | zero =>
  intro n v y h;have: 1≤Go.Proofs.Ythblpljakpecdaa.Rows.uptoBulk y.1:=by
   cases y.1 with
   | lit l=>cases l <;> simp [Go.Proofs.Ythblpljakpecdaa.Rows.uptoBulk]
   | _=>simp [Go.Proofs.Ythblpljakpecdaa.Rows.uptoBulk]
  omega
 | succ K ih =>
  intro n v y hK hB h
  rcases open_slice T44.und h with ⟨hc,_⟩ |⟨a,len,cap,m,n',D,Pl,hc,_,hl,hm,hmm,hx,hall⟩
  ·simp only [List.cons.injEq,and_true] at hc;exact⟨none, [],0,hc,RowT.nil _,by simp,Nat.zero_le _,rfl⟩
  ·simp only [List.cons.injEq,and_true] at hc;simp only [if_true] at hmm;subst hmm hx;rw [cells26] at hall;simp only [Go.Proofs.Ythblpljakpecdaa.Rows.uptoBulk] at hK hB;have hlen: len≤1048576:=by have:=bulk_len ((List.range len).map D);simp at this;omega
   have key: ∀ i,i < len→∃(t: Tm) (A: Option Addr) (c: Nat) (cs': List Value),cs'=tcells t A c∧W.cells? 0 (a.add (i * 4)) 4=some cs'∧RowT (fun b=>W.heap[b]?) A c t.l∧t.sz≤Go.Proofs.Ythblpljakpecdaa.Rows.uptoBulk (D i)∧strB t=true:=by
    intro i hi;obtain⟨cs',h1,h2⟩:=hall i (by omega);obtain⟨k,j,s,w,m',z,rfl,h3,h4,h9⟩:=open_tm0B h2;have h9: s.size+1+Go.Proofs.Ythblpljakpecdaa.Rows.uptoBulk z.1 < Go.Proofs.Ythblpljakpecdaa.Rows.uptoBulk (D i):=h9;have h5: Go.Proofs.Ythblpljakpecdaa.Rows.uptoBulk z.1 < Go.Proofs.Ythblpljakpecdaa.Rows.uptoBulk (D i):=bulk_part h4;have h6:=bulk_mem (show D i ∈(List.range len).map D from List.mem_map.2 ⟨i,List.mem_range.2 hi,rfl⟩);obtain⟨A,ts,c,rfl,h7,_,h10,h11⟩:=ih (by omega) (by omega) h3;refine⟨.mk k j s ts,A,c,_,rfl,h1,h7,?_,?_⟩
    ·rw [Tm.sz];omega
    ·rw [strB,h11,Bool.and_true];exact decide_eq_true (by omega)
   classical
   let T: Nat→Tm:=fun i=>if hi: i < len then (key i hi).choose else Tm.zero
   let Af: Nat→Option Addr:=fun i=>if hi: i < len then (key i hi).choose_spec.choose else none
   let cf: Nat→Nat:=fun i=>if hi: i < len then (key i hi).choose_spec.choose_spec.choose else 0
   have hsp: ∀ i,i < len→W.cells? 0 (a.add (i * 4)) 4=some (tcells (T i) (Af i) (cf i))∧RowT (fun b=>W.heap[b]?) (Af i) (cf i) (T i).l∧(T i).sz≤Go.Proofs.Ythblpljakpecdaa.Rows.uptoBulk (D i)∧strB (T i)=true:=by
    intro i hi;obtain⟨cs',e1,e2,e3⟩:=(key i hi).choose_spec.choose_spec.choose_spec;simp only [T,Af,cf,dif_pos hi];exact⟨e1 ▸ e2,e3⟩
   have hget: ∀(j: Nat) (t: Tm),((List.range len).map T)[j]? =some t→j < len∧t=T j:=by
    intro j t hj;rw [List.getElem?_map] at hj
    by_cases hlt: j < len
    ·rw [List.getElem?_range hlt] at hj;exact⟨hlt,(Option.some.inj hj).symm⟩
    ·rw [List.getElem?_eq_none (by simpa using Nat.le_of_not_lt hlt)] at hj;cases hj
   have hsum: ∀ l: List Nat,(∀ i ∈ l,i < len)→Tm.szL (l.map T)≤Go.Proofs.Ythblpljakpecdaa.Rows.uptoBulkAll (l.map D)∧strBL (l.map T)=true:=by
    intro l
    induction l with
    | nil=>intro _;exact⟨Nat.le_refl _,rfl⟩
    | cons i l ihl =>
     intro hl;have h1:=hsp i (hl i List.mem_cons_self);have h2:=ihl fun q hq=>hl q (List.mem_cons_of_mem _ hq);simp only [List.map_cons,Tm.szL,Go.Proofs.Ythblpljakpecdaa.Rows.uptoBulkAll,strBL,h1.2.2.2,h2.2,Bool.and_self,and_true];have:=h1.2.2.1;omega
   have hsm:=hsum (List.range len) fun i hi=>List.mem_range.1 hi;refine⟨some a,(List.range len).map T,m,by rw [hc];simp,?_,by simp;omega,by simp only [Go.Proofs.Ythblpljakpecdaa.Rows.uptoBulk];omega,hsm.2⟩
   by_cases h0: len=0
   ·subst h0;exact .mk (by simp) (by simp) 0 0 0 #[] (0,0) (fun hn=>absurd J hn) (fun _=>none) (fun _=>0) (fun j t hj=>by simp at hj) (fun j t hj=>by simp at hj)
   ·obtain⟨_,hl4,hcell⟩:=World.cells?_some (hsp 0 (by omega)).1;obtain⟨cs,e,fz,ha,hb,_⟩:=cell_at (hcell 0 (by omega));have hb': W.heap[a.block]? =some (.cells cs e fz):=by rw [dG,dG] at hb;exact hb
    have ha': a=⟨a.block,a.off,none⟩:=by
     have:=World.cell?_spot (hcell 0 (by omega))
     cases a;simp [Addr.add] at this;simp [this]
    refine .mk (by simp;omega) (by simp;omega) a.block a.off e cs fz (fun _=>⟨by rw [← ha'],hb'⟩) Af cf (fun j t hj i u hu=>?_) (fun j t hj=>?_)
    ·obtain⟨hlt,rfl⟩:=hget j t hj;obtain⟨_,_,hcell⟩:=World.cells?_some (hsp j hlt).1;have hi4: i < 4:=(List.getElem?_eq_some_iff.1 hu).1;have h8:=hcell i hi4;rw [hu] at h8;obtain⟨cs2,e2,fz2,_,hb2,hu2⟩:=cell_at h8;have hb3: W.heap[a.block]? =some (.cells cs2 e2 fz2):=by rw [dG,dG] at hb2;exact hb2
     rw [hb'] at hb3;injection hb3 with hb3
     injection hb3 with hb3
     subst hb3;rw [add_off,add_off] at hu2;exact hu2
    ·obtain⟨hlt,rfl⟩:=hget j t hj;exact(hsp j hlt).2.1
theorem open_tmB {v: Value} {d: DataW H} {ps: List MemPlace} (hB: Rows.uptoBulk d≤1048576) (hv: Value.okWide prog W .any 0 46 v) (h: DataW.Trod enc prog W 0 (fun _=>true) true 46 v d ps) :
  ∃(t: Tm) (A: Option Addr) (c: Nat),v=tv t A c∧RowT (fun b=>W.heap[b]?) A c t.l∧t.sz≤1048576∧strB t=true:=by
 unfold Value.okWide at hv;rw [T46.und] at hv;obtain⟨cs,rfl,_⟩:=hv;obtain⟨n,h⟩:=h;obtain⟨k,i,s,w,m,y,hcs,h1,h2,h6⟩:=open_tm0B h;have h3: Rows.uptoBulk y.1 < Rows.uptoBulk d:=bulk_part h2;have h6: s.size+1+Rows.uptoBulk y.1 < Rows.uptoBulk d:=h6;obtain⟨A,ts,c,rfl,h4,_,h7,h8⟩:=open_rowB (Rows.uptoBulk y.1) (Nat.le_refl _) (by omega) h1;refine⟨.mk k i s ts,A,c,?_,h4,?_,?_⟩
 ·have h5: cs.toList= [.int .i64 k,.int .i64 i,.string s,.slice A ts.length c]:=hcs;rw [← Array.toArray_toList (xs:=cs),h5];rfl
 ·rw [Tm.sz];omega
 ·rw [strB,h8,Bool.and_true];exact decide_eq_true (by omega)
end
end Go.Vk.Try
namespace Go.Vk.Try
open Go.ChangeShapes Go.WideShapes Go.ChangeAt Go.RowKit Go.Deep Go.Proofs.Ythblpljakpecdaa
theorem heapReadsBack_contract (H: Type) (enc: TypeId × Value→H) (W: World) (base: Nat) (args: Array Value) (ds gs: List (DataW H)) (before: List MemPlace)
  (hval: ∀(j: Nat) t v,Go.Proofs.Try.f5.params[j]? =some t→args[j]? =some v→Value.okWide prog W .any 0 t v)
  (hW: DataW.Whole enc prog Go.Proofs.Try.f5.params.toList Rows.heapReadsBackSpec.vars false W args.toList ds gs before) (hk: Rows.uptoSmall H (ds++gs)=true) :
  Calls prog 5 args W fun e W'=> ∃ v,e=.returned v∧Rows.heapReadsBackSpec.post enc prog f5 false true false false W args v W':=by
 have hW':=hW;obtain⟨p,q,hA0,hV,rfl,hfz,hnd⟩:=hW;have hA: DataW.TrodAll enc prog W 0 (fun _=>true) true Go.Proofs.Try.f5.params.toList args.toList ds p:=hA0;rw [params5] at hA hval;obtain⟨v0,v1,d0,d1,p0,p1,rfl,rfl,rfl,g0,g1⟩:=trodAll_two hA;obtain⟨rfl,rfl⟩:=trodVars_none hV;have hb: Rows.uptoBulkAll ([d0,d1]++ [])≤1048576:=of_decide_eq_true hk;simp only [List.append_nil,Rows.uptoBulkAll] at hb;obtain⟨i0,rfl⟩:=open_intV g0 (hval 0 3 v0 J J);obtain⟨t1,A1,c1,rfl,h1,hz1,hb1⟩:=open_tmB (by omega) (hval 1 46 v1 J J) g1;refine(c_HeapReadsBack (inv_all W) h1 hz1 hb1).mono fun e W' hh=>?_;obtain⟨H',rfl,hS⟩:=hh;exact⟨_,rfl,post_old (l:=d0) hW' J J J (fun _ _ _=>trodAll_mk1 (shut_bool underlying4 _)) (below_of hS) (by rw [params5];intro t ht;simp at ht;rcases ht with rfl | rfl <;> exact⟨by kernel_rfl,of_decide_eq_true (by kernel_rfl)⟩) (ok_one (by kernel_rfl) J (okWide_bool_mk underlying4 _))⟩
theorem heapReadsBack_lifted (os: Os) (started: os.Started) (H: Type) (enc: TypeId × Value→H) (F: Stop.Interp) :
  ReturnsInHanded {} checked os 5 .any ((Rows.OpenSpec.upto Rows.heapReadsBackSpec).pre6 enc prog f5 Rows.heapReadsBackUptoRow.domain false) (((Rows.OpenSpec.upto Rows.heapReadsBackSpec).at F).post enc prog f5 false true false false):=by
 refine returnsInHanded_of_cond (C:=checked) (s:=Rows.OpenSpec.upto Rows.heapReadsBackSpec) (k:=Rows.uptoSmall) J own started (by kernel_rfl) func5
  (OpenSpec.witness (enc:=enc) (C:=checked) (s:=Rows.OpenSpec.upto Rows.heapReadsBackSpec) (k:=Rows.uptoSmall) J false ⟨#[],#[.int .i64 0,.agg #[.int .i64 0,.int .i64 0,.string ⟨#[]⟩,.slice none 0 0]], []⟩ 8 (by kernel_rfl) (by kernel_rfl) (by kernel_rfl)
   (x:=([.lit (.int .i64 0),.agg [.lit (.int .i64 0),.lit (.int .i64 0),.lit (.string []),.nil]], [], [])) (by kernel_rfl) J (by kernel_rfl)) ?_
 intro W base args ds gs before hval hW _ hk _;exact heapReadsBack_contract H enc W base args ds gs before hval hW hk
theorem heapReadsBack_proved: Rows.HeapReadsBackUptoSaid:=
 OpenClaim.holds_of_cond 5 f5 J J J J J J J ⟨rfl,rfl,rfl,rfl,rfl⟩ rfl J J J J (by kernel_rfl) func5 (by kernel_rfl)
  (of_decide_eq_true (by kernel_rfl)) (by unfold Func.isWrapper;first |(rw [if_pos (by decide +kernel)];kernel_rfl) |(rw [if_neg (by decide +kernel)];exact⟨rfl,rfl⟩))
  (fun os started H enc _ F=>heapReadsBack_lifted os started H enc F)
end Go.Vk.Try
namespace Go.Proofs.Ythblpljakpecdaa
theorem heapReadsBack_holds: Rows.HeapReadsBackUptoSaid:=Go.Vk.Try.heapReadsBack_proved
end Go.Proofs.Ythblpljakpecdaa

