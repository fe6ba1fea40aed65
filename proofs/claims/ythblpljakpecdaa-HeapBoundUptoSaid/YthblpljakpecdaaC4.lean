/- Part 4 of the proof of heapBound_holds. Conditions: none. -/
import Derived.Test.YthblpljakpecdaaC3
set_option linter.unusedVariables false
set_option linter.unusedSimpArgs false
set_option linter.unusedSectionVars false
set_option maxRecDepth 100000
open Go.Proofs.Try
namespace Go.Vk
open Go.RowKit
theorem cd {t: Tm} (h: isTm t=true): ∀ x ∈ nds t,nodeR x=true:=fun x hx=>fy (isR_nds t (by rw [← dv];exact h) x hx)
theorem d6 {t: Tm} (h: isTm t=true): t.sz≤4000:=(cG (by rw [← dv];exact h)).1
theorem ea (t: Tm): ndsL [t]=nds t:=by rw [ndsL,ndsL,List.append_nil]
theorem d4 (t: Tm): Tm.szL [t]=t.sz:=by rw [Tm.szL,Tm.szL];rfl
theorem isTm_vb {t: Tm} (h: isTm t=true): ∀ x ∈ ndsL [t],x.kind=1→0≤x.n∧x.n < 1000000:=by
 intro x hx hk;rw [ea] at hx;have:=dK (cd h x hx) hk;omega
theorem newV_mem {o: List Int} {v: Int} (h: v ∈ o) (x: Tm): v ∈ newV o x:=by
 unfold newV
 split
 ·exact List.mem_append_left _ h
 ·exact h
theorem fold_keep {v: Int}: ∀(ns: List Tm) (o: List Int),v ∈ o→v ∈ ns.foldl newV o
 | [],_,h=>h
 | x::ns,o,h=>fold_keep ns _ (newV_mem h x)
theorem fold_mem {x: Tm} (hk: x.kind=1): ∀(ns: List Tm) (o: List Int),x ∈ ns→x.n ∈ ns.foldl newV o
 | [],_,h=>by cases h
 | y::ns,o,h=>by
  rcases List.mem_cons.1 h with rfl | h
  ·refine fold_keep ns _ ?_
   by_cases hc: o.reverse.contains x.n=true
   ·exact newV_mem (by simpa using hc) x
   ·rw [newV_yes hk (by simpa using hc)];simp
  ·exact fold_mem hk ns _ h
theorem vars_mem {t x: Tm} (hx: x ∈ nds t) (hk: x.kind=1): x.n ∈ varsN [t]:=by
 unfold varsN;rw [ea];exact fold_mem hk _ _ hx
theorem newV_bd {o: List Int} {x: Tm} {p: Int→Prop} (ho: ∀ v ∈ o,p v) (hx: x.kind=1→p x.n): ∀ v ∈ newV o x,p v:=by
 unfold newV
 split
 ·rename_i h
  intro v hv
  rcases List.mem_append.1 hv with hv | hv
  ·exact ho v hv
  ·rw [List.mem_singleton.1 hv];exact hx h.1
 ·exact ho
theorem fT {p: Int→Prop}: ∀(ns: List Tm) (o: List Int),(∀ v ∈ o,p v)→(∀ x ∈ ns,x.kind=1→p x.n)→∀ v ∈ ns.foldl newV o,p v
 | [],_,ho,_=>ho
 | x::ns,o,ho,hn=>fT ns _ (newV_bd ho (hn x List.mem_cons_self)) (fun y hy=>hn y (List.mem_cons_of_mem _ hy))
theorem vars_bd {t: Tm} (h: isTm t=true): ∀ v ∈ varsN [t],0≤v∧v < 1000000:=fT _ _ (fun v hv=>by cases hv) (isTm_vb h)
theorem vars_len {t: Tm} (h: isTm t=true):(varsN [t]).length≤4000:=by
 have h1:=fE (ndsL [t]) [];rw [bU,d4] at h1;have h2:=d6 h;unfold varsN;simp at h1;omega
def cV (v: Int) (x: Tm): Bool:=decide (x.kind=1)&&decide (x.n=v)
theorem count_step {ns: List Tm} {k: Nat} {x: Tm} {v: Int} (h: ns[k]? =some x):(((ns.take (k+1)).countP (cV v): Nat): Int)=(((ns.take k).countP (cV v): Nat): Int)+if cV v x then 1 else 0:=by
 rw [List.take_add_one,h,List.countP_append]
 show ((_+List.countP (cV v) [x]: Nat): Int)=_
 rw [List.countP_singleton]
 cases cV v x <;> simp
def mapTo (t: Tm) (k: Nat): Int→Option Value:=((varsN [t]).take k).foldl (fun f v=>putF f v (.bool (moreN t v))) (fun _=>none)
theorem mapTo_step {t: Tm} {k: Nat} {v: Int} (h:(varsN [t])[k]? =some v): mapTo t (k+1)=putF (mapTo t k) v (.bool (moreN t v)):=by
 unfold mapTo;rw [List.take_add_one,h,List.foldl_append];rfl
theorem putF_keep {t: Tm} {v: Int}: ∀(vs: List Int) (f: Int→Option Value),f v=some (.bool (moreN t v))→vs.foldl (fun f v=>putF f v (.bool (moreN t v))) f v=some (.bool (moreN t v))
 | [],_,h=>h
 | u::vs,f,h=>putF_keep vs _ (by
  show putF f u _ v=_
  unfold putF
  split
  ·rename_i e;subst e;rfl
  ·exact h)
theorem putF_mem {t: Tm} {v: Int}: ∀(vs: List Int) (f: Int→Option Value),v ∈ vs→vs.foldl (fun f v=>putF f v (.bool (moreN t v))) f v=some (.bool (moreN t v))
 | [],_,h=>by cases h
 | u::vs,f,h=>by
  rcases List.mem_cons.1 h with rfl | h
  ·exact putF_keep vs _ (by show putF f v _ v=_;unfold putF;rw [if_pos rfl])
  ·exact putF_mem vs _ h
theorem bok_of {t: Tm} {vars: List Wd} (h: isTm t=true) (hv: ∀(k: Nat) (v: Int),(varsN [t])[k]? =some v→v < vars.length): BOK vars (moreN t) (mapTo t (varsN [t]).length) t:=by
 intro x hx;refine⟨fun hk=>?_,cF (cd h x hx)⟩;have hm:=vars_mem hx hk;obtain⟨k,hk2⟩:=List.getElem?_of_mem hm;refine⟨⟨(vars_bd h _ hm).1,hv k _ hk2⟩,?_⟩;unfold mapTo;rw [List.take_length];exact putF_mem _ _ hm
theorem anyle_none {vs: List Int} {n: Int} (h: ∀(k: Nat) (v: Int),vs[k]? =some v→v < n): vs.any (fun v=>decide (n≤v))=false:=by
 rw [List.any_eq_false];intro v hv;obtain⟨k,hk⟩:=List.getElem?_of_mem hv;have:=h k v hk;simpa using this
theorem anyle_some {vs: List Int} {n v: Int} {k: Nat} (hk: vs[k]? =some v) (h: n≤v): vs.any (fun v=>decide (n≤v))=true:=List.any_eq_true.2 ⟨v,List.mem_of_getElem? hk,by simpa using h⟩
section
variable {P: Program} {a: Act} {w w0: World} {H0 H: PHeap} {L0 L: List Ent} {N: Nat} {m: Env} {R: Ending→World→Prop}
theorem leaves_marks2 {fn: Func} {t t': Nat} {v v': Value} {tmps: Array Value} (hr: fn.results= #[.tmp t,.tmp t']) (hv: tmps[t]? =some v) (hv': tmps[t']? =some v'): ∀(rs: List Nat) (w: World) (L: List Ent),Step w0 H0 L0 w H (rs.map openBlk++L)→(∀ w',Step w0 H0 L0 w' H L→R (.returned (.tuple #[v,v'])) w')→LeavesInM Fence.wide 0 P fn tmps R (rs.map markOf) .returning w
 | [],w,L,hS,k=>⟨.tuple #[v,v'],by simp [results,hr,Array.getD_eq_getD_getElem?,hv,hv'],k w (by simpa using hS)⟩
 | r::rs,w,L,hS,k=>by
  have hb: w.heap[r]? =some (.deferred (some [])):=hS.inv.at_ 0 rfl;have hS':=(hS.putObj 0 (b:=r) rfl (.deferred none)).drop;exact⟨by simp,.inl ⟨r,w.putObj r (.deferred none),rfl,run_takeDeferred hb,leaves_marks2 hr hv hv' rs _ L hS' k⟩⟩
theorem retM2 {fn: Func} {t t': Nat} {v v': Value} {rs: List Nat} (hr: fn.results= #[.tmp t,.tmp t']) (hS: Step w0 H0 L0 w H (rs.map openBlk++L)) (ha: Has (rs.map markOf) a N m) (hv: lk m t=some v) (hv': lk m t'=some v') (k: ∀ w',Step w0 H0 L0 w' H L→R (.returned (.tuple #[v,v'])) w'): bodyPostM Fence.wide 0 P fn R .ret a w:=by
 show LeavesInM Fence.wide 0 P fn a.tmps R a.defers .returning w
 rw [ha.dfr];exact leaves_marks2 hr (ha.get t v hv) (ha.get t' v' hv') rs w L hS k
end
end Go.Vk
namespace Go.Vk.Try
open Go.RowKit
theorem c_tVars {w0: World} {H: PHeap} (hI: Inv w0 H []) {A: Option Addr} {c: Nat} {ts: List Tm} (hr: RowT H A c ts) (hok: chkAll 4000 ts=true) (hz: Tm.szL ts≤1000000) (hvb: ∀ x ∈ ndsL ts,x.kind=1→0≤x.n∧x.n < 1000000): Calls prog 67 #[(.slice A ts.length c)] w0 (fun e w'=> ∃ H' A c en,e=.returned (.tuple #[.slice A (varsN ts).length c,.int .i64 0])∧Row (.slice A (varsN ts).length c) en 3 1 (varsN ts).length (ints (varsN ts))∧Step w0 H [] w' H' [en]):=by
 have hS:=Step.refl hI;have hlr:=hr.len;refine enter [(.slice A ts.length c)] func67 rfl ntmps67 rfl fun a ha=>?_;refine wp_seq (ab (Ls rfl ha fun a ha=>?_));refine Ls rfl ha fun a ha=>?_;refine wpList_nil (aa (wp_seq (wp_seq (ab (Lm rfl ha fun a ha=>?_)))));have hk1:=c_CheckAll hS.inv.nil hr;rw [if_pos hok] at hk1;refine lin rfl (aq func101 rfl rfl (ha.evs rfl) ha rfl (hk1) ?_);rintro e w ⟨rfl,hc⟩;refine⟨_,rfl,fun a ha=>?_⟩;have hS:=hS.call hc;refine Ls rfl ha fun a ha=>?_;refine wpList_nil (aa (wp_seq (ab (Lm rfl ha fun a ha=>?_))));refine lin rfl (aX (i:=0) (j:=0) ha rfl rfl rfl fun a ha=>?_);refine wpList_nil (aa (ai ha rfl (wp_skip (aa (wp_seq (ab (Lm rfl ha fun a ha=>?_)))))));have hk3:=c_tvars hS.inv.nil hr hz hvb;refine lin rfl (aq func102 rfl rfl (ha.evs rfl) ha rfl (hk3) ?_);rintro e w ⟨H2,A2,c2,en2,rfl,hR2,hc2⟩;refine⟨_,rfl,fun a ha=>?_⟩;have hS:=Step.frame (Lc:= []) hS hc2;refine Ls rfl ha fun a ha=>?_;refine Ls rfl ha fun a ha=>?_;refine wpList_nil (aa (wp_ret (ret2 rfl ha rfl rfl ?_)));exact⟨_,_,_,_,rfl,hR2,hS⟩
set_option maxHeartbeats 1000000 in
theorem c_tTimes {w0: World} {H: PHeap} (hI: Inv w0 H []) {t: Tm} {A: Option Addr} {c: Nat} {v: Int} (hr: RowT H A c t.l) (hok: isTm t=true): Calls prog 68 #[(tv t A c),(iV v)] w0 (fun e w'=> ∃ H',e=.returned (.tuple #[.int .i64 ((timesN t v: Nat): Int),.int .i64 0])∧Step w0 H [] w' H' []):=by
 have hS:=Step.refl hI;have hsz_:=d6 hok;have hnl_:=eP t;refine enterM [(tv t A c),(iV v)] func68 rfl ntmps68 rfl fun a ha=>?_;refine wp_seq (ab (lin rfl (aL (cs:=(tA t A c)) hS ha rfl rfl rfl fun b1 a w hS ha=>?_)));refine lin rfl (aL (cs:= #[(iV v)]) hS ha rfl rfl rfl fun b3 a w hS ha=>?_);refine Ls rfl ha fun a ha=>?_;refine Ls rfl ha fun a ha=>?_;refine wpList_nil (aa (wp_seq (wp_seq (ab (lin rfl (am (vs:=(tL t A c)) T46 rfl ha rfl (hS.blkL 1 rfl) rfl (ag rfl) rfl fun a ha=>?_))))));have hk5:=eY hS.inv.nil hr;rw [if_pos hok] at hk5;refine lin rfl (aq func66 rfl rfl (ha.evs rfl) ha rfl (hk5) ?_);rintro e w ⟨rfl,hc⟩;refine⟨_,rfl,fun a ha=>?_⟩;have hS:=hS.call hc;refine Ls rfl ha fun a ha=>?_;refine wpList_nil (aa (wp_seq (ab (Lm rfl ha fun a ha=>?_))));refine lin rfl (aX (i:=0) (j:=0) ha rfl rfl rfl fun a ha=>?_);refine wpList_nil (aa (ai ha rfl (wp_skip (aa (wp_seq (ab (lin rfl (aC (cs:= #[(iV 0)]) T3 hS ha rfl rfl fun b6 a w hS ha=>?_))))))));refine lin rfl (ao (cs':= #[(iV 0)]) T3 hS (i:=0) rfl ha rfl rfl rfl rfl rfl rfl fun a w hS ha=>?_);refine wpList_nil (aa (wp_seq (wp_seq (ab (lin rfl (am (vs:=(tL t A c)) T46 rfl ha rfl (hS.blkL 2 rfl) rfl (ag rfl) rfl fun a ha=>?_))))));have hk9:=c_tnodes hS.inv.nil hr;refine lin rfl (aq func103 rfl rfl (ha.evs rfl) ha rfl (hk9) ?_);rintro e w ⟨H8,bt8,A8,c8,rfl,hbt8,hr8,hc8⟩;refine⟨_,rfl,fun a ha=>?_⟩;have hS:=hS.call hc8;refine wpList_nil (aa (wp_block ?_));have hS:=hS.front 2 rfl;have hS:=hS.drop;have hS: Step w0 H [] w H8 ((some b6,(.cells #[(iV 0)] 3 (0,0)))::(some b3,(.cells #[(iV v)] 3 (0,0)))::([]: List Ent)):=hS;refine c_range1 (D:= []) (N:=29) (m:= [(3,(pB b3)),(4,(iV 0)),(5,(iV 0)),(7,(pB b6)),(15,(.func (.func 114) #[] #[.pointer (some ⟨bt8,0,none⟩)]))]) (w0:=w0) (H0:=H) (L0:= []) (H:=H8) (L:=((some b6,(.cells #[(iV 0)] 3 (0,0)))::(some b3,(.cells #[(iV v)] 3 (0,0)))::([]: List Ent))) (n:=(nds t).length) func114 rfl rfl rfl rfl (ha.pk rfl) hS (c_tnodes1 hbt8 hr8) (fun kq H1 L1=>L1=((some b6,(.cells #[(iV ((((nds t).take kq).countP (cV v): Nat): Int))] 3 (0,0)))::(some b3,(.cells #[(iV v)] 3 (0,0)))::([]: List Ent))∧Le H8 H1) ⟨rfl,Le.refl _⟩ (fun kq v Hy E a2=> ∃(bq: Nat) (tq: Tm) (Aq: Option Addr) (cq: Nat),(nds t)[kq]? =some tq∧v=tv tq Aq cq∧RowT Hy Aq cq tq.l∧E= [(some bq,.cells (tA tq Aq cq) 46 (0,0))]∧Has [] a2 29 [(3,(pB b3)),(4,(iV 0)),(5,(iV 0)),(7,(pB b6)),(8,(pB bq)),(15,(.func (.func 114) #[] #[.pointer (some ⟨bt8,0,none⟩)]))]) ?_ ?_ ?_
 ·rintro l kq vq w el er Hy Ly a hk ⟨t_,A_,c_,ht_,rfl,hr_⟩ ⟨rfl,hleS⟩ hS ha;refine a7 rfl (fun⟨_,_,h⟩=>by cases h.1) ?_;refine lin rfl (aC (cs:=aZ) T46 hS ha rfl rfl fun b10 a w hS ha=>?_);refine lin rfl (ao (cs':=(tA t_ A_ c_)) T46 hS (i:=0) rfl ha rfl rfl rfl rfl rfl rfl fun a w hS ha=>?_);refine wpList_nil ?_;exact⟨rfl,_,⟨_,t_,A_,c_,ht_,rfl,hr_,rfl,ha.pk rfl⟩,((hS.front 1 rfl).front 2 rfl).front 1 rfl⟩
 ·rintro l kq vq W0 Hz Lz w el er Hy Ly E a hk _ ⟨rfl,hleS⟩ ⟨bx,t_,A_,c_,ht_,rfl,hr_,rfl,ha⟩ hS;have hS: Step W0 Hz Lz w Hy (el::er::(some bx,(.cells (tA t_ A_ c_) 46 (0,0)))::(some b6,(.cells #[(iV ((((nds t).take kq).countP (cV v): Nat): Int))] 3 (0,0)))::(some b3,(.cells #[(iV v)] 3 (0,0)))::([]: List Ent)):=hS;have hcp_:=List.countP_le_length (p:=cV v) (l:=(nds t).take kq);rw [List.length_take] at hcp_;have hcs_:=count_step (v:=v) ht_;refine wpIn_block ?_;refine wpIn_seq ?_;refine a7 rfl (fun h_=>by obtain⟨_,_,h_⟩:=h_;have h_:=And.left h_;cases h_) ?_;refine lin rfl (ad (f:=0) (o2:=0) T46 T3 rfl rfl rfl rfl ha rfl rfl fun a ha=>?_);refine lin rfl (af (v:=(iV t_.kind)) T3 rfl ha rfl (hS.blkL 2 rfl) rfl rfl fun a ha=>?_);refine lin rfl (aP (i:=t_.kind) (j:=1) ha rfl rfl rfl fun a ha=>?_);refine Lm rfl ha fun a ha=>?_;refine ak (t:=20) ha rfl (fun h12 ha=>?_) (fun h12 ha=>?_)
  ·refine ac rfl ha rfl rfl rfl (ad (f:=1) (o2:=1) T46 T3 rfl rfl rfl rfl ha rfl rfl fun a ha=>?_);refine ac rfl ha rfl rfl rfl (af (v:=(iV t_.n)) T3 rfl ha rfl (hS.blkL 2 rfl) rfl rfl fun a ha=>?_);refine ac rfl ha rfl rfl rfl (af (v:=(iV v)) T3 rfl ha rfl (hS.blkL 4 rfl) rfl rfl fun a ha=>?_);refine ac rfl ha rfl rfl rfl (aP (i:=t_.n) (j:=v) ha rfl rfl rfl fun a ha=>?_);refine lin rfl (an ha rfl rfl rfl fun a ha=>?_);refine wpList_nil (aa (ak (t:=25) ha rfl (fun h13 ha=>?_) (fun h13 ha=>?_)))
   ·refine cIn_true ha rfl ?_;refine a7 rfl (fun h_=>by obtain⟨_,_,h_⟩:=h_;have h_:=And.left h_;cases h_) ?_;refine lin rfl (af (v:=(iV ((((nds t).take kq).countP (cV v): Nat): Int))) T3 rfl ha rfl (hS.blkL 3 rfl) rfl rfl fun a ha=>?_);refine lin rfl (aF (i:=((((nds t).take kq).countP (cV v): Nat): Int)) (j:=1) ha rfl rfl rfl (by omega) fun a ha=>?_);refine lin rfl (ao (cs':= #[(iV (((((nds t).take kq).countP (cV v): Nat): Int)+1))]) T3 hS (i:=3) rfl ha rfl rfl rfl rfl rfl rfl fun a w hS ha=>?_);refine wpList_nil (ar (?_));have hS:=hS.front 2 rfl;have hS:=hS.drop;have hz_: cV v t_=true:=by
     unfold cV;rw [decide_eq_true h12,decide_eq_true h13];rfl
    rw [hz_] at hcs_;have hzz_:((((nds t).take (kq+1)).countP (cV v): Nat): Int)=(((((nds t).take kq).countP (cV v): Nat): Int)+1):=by rw [hcs_];rfl
    exact⟨rfl,Hy,((some b6,(.cells #[(iV (((((nds t).take kq).countP (cV v): Nat): Int)+1))] 3 (0,0)))::(some b3,(.cells #[(iV v)] 3 (0,0)))::([]: List Ent)),⟨by rw [hzz_],hleS⟩,hS⟩
   ·refine dJ ha rfl ?_;refine wpIn_skip ?_;refine ar (?_);have hS:=hS.front 2 rfl;have hS:=hS.drop;have hz_: cV v t_=false:=by
     unfold cV;rw [decide_eq_true h12,decide_eq_false h13];rfl
    rw [hz_] at hcs_;have hzz_:((((nds t).take (kq+1)).countP (cV v): Nat): Int)=((((nds t).take kq).countP (cV v): Nat): Int):=by rw [hcs_];simp
    exact⟨rfl,Hy,((some b6,(.cells #[(iV ((((nds t).take kq).countP (cV v): Nat): Int))] 3 (0,0)))::(some b3,(.cells #[(iV v)] 3 (0,0)))::([]: List Ent)),⟨by rw [hzz_],hleS⟩,hS⟩
  ·refine Lf rfl ha rfl rfl fun a ha=>?_;refine Lf rfl ha rfl rfl fun a ha=>?_;refine Lf rfl ha rfl rfl fun a ha=>?_;refine Lf rfl ha rfl rfl fun a ha=>?_;refine lin rfl (aj ha rfl rfl rfl fun a ha=>?_);refine wpList_nil (aa (dJ ha rfl ?_));refine wpIn_skip ?_;refine ar (?_);have hS:=hS.front 2 rfl;have hS:=hS.drop;have hz_: cV v t_=false:=by
    unfold cV;rw [decide_eq_false h12];rfl
   rw [hz_] at hcs_;have hzz_:((((nds t).take (kq+1)).countP (cV v): Nat): Int)=((((nds t).take kq).countP (cV v): Nat): Int):=by rw [hcs_];simp
   exact⟨rfl,Hy,((some b6,(.cells #[(iV ((((nds t).take kq).countP (cV v): Nat): Int))] 3 (0,0)))::(some b3,(.cells #[(iV v)] 3 (0,0)))::([]: List Ent)),⟨by rw [hzz_],hleS⟩,hS⟩
 ·rintro r_ w Hs Ly a ⟨rfl,hleS⟩ hS ha;have hS:=Step.marks (e:=openBlk r_) (M:= [(some b6,(.cells #[(iV ((((nds t).take (nds t).length).countP (cV v): Nat): Int))] 3 (0,0))),(some b3,(.cells #[(iV v)] 3 (0,0)))]) (X:=([]: List Ent)) hS;rw [List.take_of_length_le (Nat.le_refl _)] at hS;refine ar (aa (wp_seq (ab (lin rfl (af (v:=(iV (((nds t).countP (cV v): Nat): Int))) T3 rfl ha rfl (hS.blkL 0 rfl) rfl rfl fun a ha=>?_)))));refine Ls rfl ha fun a ha=>?_;refine Ls rfl ha fun a ha=>?_;refine wpList_nil (aa (wp_ret ?_));have hS:=hS.drop;have hS:=hS.drop;exact retM2 (rs:= [r_]) rfl hS ha rfl rfl fun w hS=>⟨_,rfl,hS⟩
end Go.Vk.Try
namespace Go.Vk
open Go.RowKit
structure MO (h: HS) (mk: List Int): Prop where
 ok: h.Ok
 at_: ∀ a ∈ mk,0≤a∧∃ b,h.S[a.toNat]? =some (some b)
 nd: mk.Nodup
theorem MO.nil {h: HS} (hO: h.Ok): MO h []:=⟨hO,(fun a ha=>by cases ha),List.nodup_nil⟩
theorem MO.place {h: HS} {mk: List Int} (hm: MO h mk) {b: PB} (hb: b.ok) (hp: ¬(h.place b).2 < 0): MO (h.place b).1 (mk++ [(h.place b).2]):=by
 have ho:=hm.ok.place hb;rw [bK] at hp ⊢
 rcases bN h.tk b.size with h1 |⟨p,h1,h2,h3⟩
 ·omega
 ·have hs:=hb.size;have hl:=hm.ok.ltk;have hS:(h.place b).1.S=h.S.set p (some b):=by
   unfold HS.place;dsimp only;rw [if_neg hp,h1];rfl
  have hnew: ∀(c: PB),h.S[p]?≠some (some c):=by
   intro c hc;have h4:=(hm.ok.tkn p).2 ⟨p,c,hc,Nat.le_refl _,by have:=(hm.ok.blk p c hc).1.size;omega⟩;rw [h3 p (Nat.le_refl _) (by omega)] at h4
   cases h4
  rw [h1];refine⟨ho,fun a ha=>?_,?_⟩
  ·rcases List.mem_append.1 ha with ha | ha
   ·obtain⟨h4,c,h5⟩:=hm.at_ a ha;exact⟨h4,c,dc hm.ok h5⟩
   ·rw [List.mem_singleton.1 ha];exact⟨by omega,b,by rw [hS,Int.toNat_natCast,List.getElem?_set,if_pos rfl,if_pos (by omega)]⟩
  ·rw [List.nodup_append];refine⟨hm.nd,by simp,fun a ha c hc e=>?_⟩;rw [List.mem_singleton.1 hc] at e;obtain⟨_,d,h5⟩:=hm.at_ a ha;rw [e,Int.toNat_natCast] at h5;exact hnew d h5
theorem MO.clear {h: HS} {a: Int} {mk: List Int} (hm: MO h (a::mk)): MO (h.clear a.toNat) mk:=by
 obtain⟨h0,b,hb⟩:=hm.at_ a List.mem_cons_self;have hnd:=List.nodup_cons.1 hm.nd;have hg: h.S.getD a.toNat none=some b:=by rw [List.getD_eq_getElem?_getD,hb];rfl
 refine⟨hm.ok.clear _,fun c hc=>?_,hnd.2⟩;obtain⟨h1,d,hd⟩:=hm.at_ c (List.mem_cons_of_mem _ hc);refine⟨h1,d,?_⟩;unfold HS.clear;rw [hg]
 show (h.S.set _ _)[_]? =_
 rw [List.getElem?_set_ne]
 ·exact hd
 ·intro e;have: a=c:=by omega
  subst this;exact hnd.1 hc
mutual
theorem eM {vars: List Wd} {mo: Int→Bool}: ∀(t: Tm) (h: HS) (mk: List Int),(∀ x ∈ nds t,x.l.length≤64)→MO h mk→MO (bldS vars mo t (h,mk)).1.1 (bldS vars mo t (h,mk)).1.2
 | .mk k n s l,h,mk,hn,hm=>by
  have hl:=fK (vars:=vars) (mo:=mo) l h mk (fun x hx=>hn x (by rw [nds];exact List.mem_cons_of_mem _ hx)) hm;rw [bldS]
  split
  ·exact hm
  ·split
   ·exact hm
   ·split
    ·exact hm
    ·split
     ·exact hm
     ·split
      ·rename_i st' h1;rw [h1] at hl;exact hl.1
      ·rename_i st' ws h1
       rw [h1] at hl;have hw: ws.length≤64:=by rw [hl.2 ws rfl];exact hn (.mk k n s l) (by rw [nds];exact List.mem_cons_self)
       by_cases hp:(st'.1.place (if k=5 then PB.fn s ws else PB.vec ws)).2 < 0
       ·rw [if_pos hp];exact hl.1
       ·rw [if_neg hp];refine hl.1.place ?_ hp
        split
        ·exact hw
        ·exact hw
theorem fK {vars: List Wd} {mo: Int→Bool}: ∀(ts: List Tm) (h: HS) (mk: List Int),(∀ x ∈ ndsL ts,x.l.length≤64)→MO h mk→MO (bldL vars mo ts (h,mk)).1.1 (bldL vars mo ts (h,mk)).1.2∧∀ ws,(bldL vars mo ts (h,mk)).2=some ws→ws.length=ts.length
 | [],h,mk,_,hm=>by
  rw [bldL];exact⟨hm,fun ws hw=>by obtain rfl:=Option.some.inj hw;rfl⟩
 | t::ts,h,mk,hn,hm=>by
  have h1:=eM (vars:=vars) (mo:=mo) t h mk (fun x hx=>hn x (by rw [ndsL];exact List.mem_append_left _ hx)) hm;rw [cc]
  split
  ·rename_i st' e;rw [e] at h1;exact⟨h1,fun ws hw=>by cases hw⟩
  ·rename_i st' w e
   rw [e] at h1;have h2:=fK (vars:=vars) (mo:=mo) ts st'.1 st'.2 (fun x hx=>hn x (by rw [ndsL];exact List.mem_append_right _ hx)) h1
   split
   ·rename_i e2;rw [e2] at h2;exact⟨h2.1,fun ws hw=>by cases hw⟩
   ·rename_i e2
    rw [e2] at h2;exact⟨h2.1,fun ws hw=>by obtain rfl:=Option.some.inj hw;rw [List.length_cons,List.length_cons,h2.2 _ rfl]⟩
end
theorem HS.Ok.build {h: HS} (hO: h.Ok) (t: Tm) (vars: List Wd):(h.build t vars).1.Ok:=by
 unfold HS.build
 split
 ·exact hO
 ·rename_i h1
  have ht: isTm t=true:=by simpa using h1
  have hm:=eM (vars:=vars) (mo:=moreN t) t h [] (fun x hx=>cF (cd ht x hx)) (MO.nil hO)
  split
  ·exact hO
  ·split
   ·exact hO
   ·split
    ·rename_i st e
     rw [e] at hm;have key: ∀(mk: List Int) (g: HS),g.Ok→(mk.foldl (fun g a=>g.clear a.toNat) g).Ok:=by
      intro mk
      induction mk with
      | nil=>intro g hg;exact hg
      | cons a mk ih=>intro g hg;exact ih _ (hg.clear _)
     exact key st.2 st.1 hm.ok
    ·rename_i st w e
     rw [e] at hm;exact hm.ok
theorem clear_step {h: HS} {mk: List Int} {k: Nat} {a: Int} (ha: mk[k]? =some a):(mk.drop k).foldl (fun g a=>g.clear a.toNat) h=(mk.drop (k+1)).foldl (fun g a=>g.clear a.toNat) (h.clear a.toNat):=by
 rw [aK ha];rfl
end Go.Vk
namespace Go.Vk.Try
open Go.RowKit
set_option maxHeartbeats 2000000 in
theorem eQ {w0: World} {H: PHeap} {L: List Ent} {p: Nat} {h: HS} (hI: Inv w0 H L) (hK: HK p h L) (hO: h.Ok) {t: Tm} {A: Option Addr} {c: Nat} (hr: RowT H A c t.l) {Av: Option Addr} {cv: Nat} {vars: List Wd} (hv: RdG 4 Wd.cells w0 L Av cv vars): Calls prog 29 #[(pB p),(tv t A c),(.slice Av vars.length cv)] w0 (fun e w'=> ∃ H' L',e=.returned (.tuple #[wv (h.build t vars).2.1,.int .i64 (h.build t vars).2.2])∧HK p (h.build t vars).1 L'∧Step w0 H L w' H' L'):=by
 have hS:=Step.refl hI;have hvm_:=hv.hm;refine enter [(pB p),(tv t A c),(.slice Av vars.length cv)] func29 rfl ntmps29 rfl fun a ha=>?_;refine wp_seq (ab (lin rfl (aL (cs:=(tA t A c)) hS ha rfl rfl rfl fun b1 a w hS ha=>?_)));refine lin rfl (aC (cs:= #[(iV 0),(iV 0),(.string (⟨#[]⟩)),(.bool false)]) T34 hS ha rfl rfl fun b3 a w hS ha=>?_);refine Ls rfl ha fun a ha=>?_;refine wpList_nil (aa (wp_seq (wp_seq (ab (lin rfl (am (vs:=(tL t A c)) T46 rfl ha rfl (hS.blkL 1 rfl) rfl (ag rfl) rfl fun a ha=>?_))))));refine lin rfl (aq func66 rfl rfl (ha.evs rfl) ha rfl (eY (t:=t) hS.inv.nil hr) ?_);rintro e w ⟨rfl,hc⟩;refine⟨_,rfl,fun a ha=>?_⟩;have hS:=hS.call hc;refine Ls rfl ha fun a ha=>?_;refine wpList_nil (aa (wp_seq (ab (Lm rfl ha fun a ha=>?_))));refine lin rfl (aX (i:=(if isTm t then (0: Int) else 3)) (j:=0) ha rfl rfl rfl fun a ha=>?_);refine wpList_nil (aa (aT (t:=23) ha rfl (fun h5 ha=>?_) (fun h5 ha=>?_)))
 ·have hok: isTm t=false:=by
   cases h_: isTm t with
   | true=>have h2_:=h5;rw [h_] at h2_;simp at h2_
   | false=>rfl
  refine ap ha rfl (wp_seq (ab (lin rfl (aD (vs:= []) (cells:= [(iV 0),(iV 0),(.string (⟨#[]⟩)),(.bool false)]) T34 PL34 ha (ha.evp rfl) rfl rfl fun a ha=>?_))));refine Lm rfl ha fun a ha=>?_;refine lin rfl (ao (cs':= #[(iV 0),(iV 0),(.string (⟨#[]⟩)),(.bool false)]) T34 hS (i:=0) rfl ha rfl rfl rfl rfl rfl rfl fun a w hS ha=>?_);refine Ls rfl ha fun a ha=>?_;refine wpList_nil (aa (wp_ret (ah (retA1 (i:=0) (cs:= #[(iV 0),(iV 0),(.string (⟨#[]⟩)),(.bool false)]) rfl T34 rfl hS rfl ha rfl rfl rfl ?_))));have hS:=hS.drop;have hS:=hS.drop;have hq_: h.build t vars=(h,(Wd.zero,3)):=by unfold HS.build;rw [if_pos hok]
  rw [hq_];rw [hok];exact⟨_,_,rfl,hK,hS⟩
 ·have hok: isTm t=true:=by
   cases h_: isTm t with
   | true=>rfl
   | false=>have h2_:=h5;rw [h_] at h2_;simp at h2_
  have hsz_:=d6 hok;have hvl_:=vars_len hok;have hvbd_:=vars_bd hok;refine ai ha rfl (wp_skip (aa (wp_seq (wp_seq (ab (Lm rfl ha fun a ha=>?_))))));refine lin rfl (a8 T24.und T88 ha rfl rfl rfl fun a ha=>?_);refine Lm rfl ha fun a ha=>?_;refine ac rfl ha rfl rfl rfl (av ha rfl rfl fun a ha=>?_);refine ac rfl ha rfl rfl rfl (av ha rfl rfl fun a ha=>?_);have hKo_:=hK;obtain⟨bs6,hbs6,hP6⟩:=hKo_;have hk7:=fO (hS.tail [(some b3,(.cells #[(iV 0),(iV 0),(.string (⟨#[]⟩)),(.bool false)] 34 (0,0))),(some b1,(.cells (tA t A c) 46 (0,0)))]) hP6 (hv.at_ (H':=H) hS (bF [(some b3,(.cells #[(iV 0),(iV 0),(.string (⟨#[]⟩)),(.bool false)] 34 (0,0))),(some b1,(.cells (tA t A c) 46 (0,0)))]));rw [hbs6] at hk7;refine ac rfl ha rfl rfl rfl (aq func51 rfl rfl (ha.evs rfl) ha rfl (hk7) ?_);rintro e w ⟨rfl,hc⟩;refine⟨_,rfl,fun a ha=>?_⟩;have hS:=hS.frameR [(some b3,(.cells #[(iV 0),(iV 0),(.string (⟨#[]⟩)),(.bool false)] 34 (0,0))),(some b1,(.cells (tA t A c) 46 (0,0)))] hc;refine ac rfl ha rfl rfl rfl (aJ ha rfl rfl fun a ha=>?_);refine lin rfl (aj ha rfl rfl rfl fun a ha=>?_);refine wpList_nil (aa (au (t:=33) ha rfl (fun h8 ha=>?_) (fun h8 ha=>?_)))
  ·have hal_: allS (HS.S h) vars=false:=by simpa using h8
   refine ap ha rfl (wp_seq (ab (lin rfl (aD (vs:= []) (cells:= [(iV 0),(iV 0),(.string (⟨#[]⟩)),(.bool false)]) T34 PL34 ha (ha.evp rfl) rfl rfl fun a ha=>?_))));refine lin rfl (ao (cs':= #[(iV 0),(iV 0),(.string (⟨#[]⟩)),(.bool false)]) T34 hS (i:=0) rfl ha rfl rfl rfl rfl rfl rfl fun a w hS ha=>?_);refine Ls rfl ha fun a ha=>?_;refine wpList_nil (aa (wp_ret (ah (retA1 (i:=0) (cs:= #[(iV 0),(iV 0),(.string (⟨#[]⟩)),(.bool false)]) rfl T34 rfl hS rfl ha rfl rfl rfl ?_))));have hS:=hS.drop;have hS:=hS.drop;have hq_: h.build t vars=(h,(Wd.zero,211)):=by unfold HS.build;rw [if_neg (by rw [hok];simp),if_pos hal_]
   rw [hq_];exact⟨_,_,rfl,hK,hS⟩
  ·have hal_: allS (HS.S h) vars=true:=by simpa using h8
   refine ai ha rfl (wp_skip (aa (wp_seq (ab (lin rfl (am (vs:=(tL t A c)) T46 rfl ha rfl (hS.blkL 1 rfl) rfl (ag rfl) rfl fun a ha=>?_))))));refine lin rfl (bg (vs:= [(0,(tv t A c))]) (cells:=(tL t A c)) T44.und T46 hS ha (ha.evp rfl) rfl rfl rfl rfl fun b9 a w hS ha=>?_);obtain⟨H9,hS,hle9,hb9⟩:=hS.give;have hr:=hr.mono hle9;have hr9: RowT H9 (some ⟨b9,0,none⟩) 1 [t]:=RowT.of_lit ([⟨t,A,c⟩]: List TV) hb9 (AllR.cons hr (AllR.nil _)) (by simp) rfl;have hk11:=c_tVars hS.inv.nil hr9 (show chkAll 4000 [t]=true from hok) (by rw [d4];omega) (isTm_vb hok);refine lin rfl (aq func67 rfl rfl (ha.evs rfl) ha rfl (hk11) ?_);rintro e w ⟨H10,A10,c10,en10,rfl,hR10,hc10⟩;refine⟨_,rfl,fun a ha=>?_⟩;have hS:=Step.frame (Lc:= []) hS hc10;have hr:=hr.mono hc10.le;refine Lm rfl ha fun a ha=>?_;refine lin rfl (ae (v:=(.slice A10 ((varsN [t]).length) c10)) ha rfl rfl rfl fun a ha=>?_);refine lin rfl (ae (v:=(iV 0)) ha rfl rfl rfl fun a ha=>?_);refine Ls rfl ha fun a ha=>?_;refine Ls rfl ha fun a ha=>?_;refine wpList_nil (aa (wp_seq (ab (Lm rfl ha fun a ha=>?_))));refine Lm rfl ha fun a ha=>?_;refine lin rfl (o_makeMapV (k:=3) hS ha rfl fun bm em12 a w hM hS ha=>?_);refine lin rfl (aD (vs:= [(0,(pB p)),(1,(.slice Av vars.length cv)),(2,(.map (some bm)))]) (cells:= [(pB p),(.slice Av vars.length cv),(.map (some bm)),(.slice none 0 0)]) T126 PL126 ha (ha.evp rfl) rfl rfl fun a ha=>?_);refine lin rfl (aL (cs:= #[(pB p),(.slice Av vars.length cv),(.map (some bm)),(.slice none 0 0)]) hS ha rfl rfl rfl fun b13 a w hS ha=>?_);have hS:=hS.cons_none (en:=noEnt) rfl;refine Ls rfl ha fun a ha=>?_;refine wpList_nil (aa (wp_seq (wp_seq (ab (Lm rfl ha fun a ha=>?_)))));refine lin rfl (aG T22.und ha rfl rfl fun a ha=>?_);refine Lm rfl ha fun a ha=>?_;refine wpList_nil (aa (wp_block (aO (fun nn_ a w=> ∃(H15: PHeap),∃(k: Nat),∃(em: Ent),Le H10 H15∧nn_=(varsN [t]).length - k∧Has [] a 94 [(0,(pB p)),(2,(.slice Av vars.length cv)),(4,(pB b1)),(6,(pB b3)),(11,(pB b13)),(46,(.slice A10 ((varsN [t]).length) c10)),(47,(iV (((varsN [t]).length: Nat): Int))),(48,(iV ((k: Nat): Int)))]∧Step w0 H L w H15 (noEnt::(some b13,(.cells #[(pB p),(.slice Av vars.length cv),(.map (some bm)),(.slice none 0 0)] 126 (0,0)))::em::en10::(some b3,(.cells #[(iV 0),(iV 0),(.string (⟨#[]⟩)),(.bool false)] 34 (0,0)))::(some b1,(.cells (tA t A c) 46 (0,0)))::L)∧(MapV prog 3 em bm k (mapTo t k))∧(∀(j: Nat) (v: Int),j < k→(varsN [t])[j]? =some v→v < vars.length)∧(k≤(varsN [t]).length)) _ ⟨H10,0,em12,Le.refl _,rfl,ha.pk rfl,hS,hM,(fun j v h=>by omega),(by omega)⟩ ?_)));intro n15 a w hh;obtain⟨H15,k,em,hle15,hn15,ha,hS,hM,hlt,hk⟩:=hh;have hr:=hr.mono hle15;refine wp_seq (ab (lin rfl (aQ (i:=((k: Nat): Int)) (j:=(((varsN [t]).length: Nat): Int)) ha rfl rfl rfl fun a ha=>?_)));refine wpList_nil (aa (wp_seq (ak (t:=49) ha rfl (fun h16 ha=>?_) (fun h16 ha=>?_))))
   ·refine ap ha rfl (wp_skip (aa (wp_seq (wp_block (wp_seq (ab ?_))))));obtain⟨b17,cap17,cur17,hv17,he17,hc17, -⟩:=hR10.at_ (j:=k) (by omega);have hA17:(A10: Option Addr)=some ⟨b17,0,none⟩:=by injection hv17
    obtain⟨x17,hx17⟩: ∃ x,(varsN [t])[k]? =some x:=⟨_,List.getElem?_eq_getElem (by first | omega |(simp;omega))⟩;have hc17:=hc17 0 (iV x17) (by omega) (bw hx17);refine lin rfl (aA (b:=b17) (o:=0) (j:=k) T22.und T3 hA17 ha rfl rfl (by omega) (by omega) rfl fun a ha=>?_);have hvb_:=hvbd_ _ (List.mem_of_getElem? hx17);refine lin rfl (af (v:=(iV x17)) T3 rfl ha rfl (hS.blkL 3 (b:=b17) (o:=.cells cur17 3 (0,0)) (by rw [← he17];rfl)) hc17 rfl fun a ha=>?_);refine Ls rfl ha fun a ha=>?_;refine wpList_nil (aa (wp_seq (wp_seq (ab (Lm rfl ha fun a ha=>?_)))));refine Lm rfl ha fun a ha=>?_;refine lin rfl (aG T29.und ha rfl rfl fun a ha=>?_);refine lin rfl (cZ (i:=x17) (j:=((vars.length: Nat): Int)) ha rfl rfl rfl fun a ha=>?_);refine wpList_nil (aa (ak (t:=55) ha rfl (fun h18 ha=>?_) (fun h18 ha=>?_)))
    ·refine ap ha rfl (wp_seq (ab (lin rfl (aD (vs:= []) (cells:= [(iV 0),(iV 0),(.string (⟨#[]⟩)),(.bool false)]) T34 PL34 ha (ha.evp rfl) rfl rfl fun a ha=>?_))));refine lin rfl (ao (cs':= #[(iV 0),(iV 0),(.string (⟨#[]⟩)),(.bool false)]) T34 hS (i:=4) rfl ha rfl rfl rfl rfl rfl rfl fun a w hS ha=>?_);refine Ls rfl ha fun a ha=>?_;refine wpList_nil (aa (wp_ret (ah (az (ah (ah (az (ah (retA1 (i:=4) (cs:= #[(iV 0),(iV 0),(.string (⟨#[]⟩)),(.bool false)]) rfl T34 rfl hS rfl ha rfl rfl rfl ?_)))))))));have hS:=hS.drop;have hS:=hS.drop;have hS:=hS.drop;have hS:=hS.drop;have hS:=hS.drop;have hS:=hS.drop;have hq_: h.build t vars=(h,(Wd.zero,1)):=by unfold HS.build;rw [if_neg (by rw [hok];simp),if_neg (by rw [hal_];simp),if_pos (anyle_some hx17 h18)]
     rw [hq_];exact⟨_,_,rfl,hK,hS⟩
    ·refine ai ha rfl (wp_skip (aa (wp_seq (ab (lin rfl (am (vs:=(tL t A c)) T46 rfl ha rfl (hS.blkL 5 rfl) rfl (ag rfl) rfl fun a ha=>?_))))));refine Lm rfl ha fun a ha=>?_;have hk20:=c_tTimes (v:=x17) hS.inv.nil hr hok;refine lin rfl (aq func68 rfl rfl (ha.evs rfl) ha rfl (hk20) ?_);rintro e w ⟨H19,rfl,hc19⟩;refine⟨_,rfl,fun a ha=>?_⟩;have hS:=hS.call hc19;refine Lm rfl ha fun a ha=>?_;refine lin rfl (ae (v:=(iV (((timesN t x17): Nat): Int))) ha rfl rfl rfl fun a ha=>?_);refine lin rfl (ae (v:=(iV 0)) ha rfl rfl rfl fun a ha=>?_);refine Ls rfl ha fun a ha=>?_;refine Ls rfl ha fun a ha=>?_;refine wpList_nil (aa (ab (Lm rfl ha fun a ha=>?_)));refine lin rfl (aI ha rfl rfl fun a ha=>?_);refine lin rfl (ad (f:=2) (o2:=2) T126 T124 rfl rfl rfl rfl ha rfl rfl fun a ha=>?_);refine lin rfl (af (v:=(.map (some bm))) T124 rfl ha rfl (hS.blkL 1 rfl) rfl rfl fun a ha=>?_);refine Lm rfl ha fun a ha=>?_;refine Lm rfl ha fun a ha=>?_;refine lin rfl (cP (i:=(((timesN t x17): Nat): Int)) (j:=1) ha rfl rfl rfl fun a ha=>?_);rw [show decide ((1: Int) <((timesN t x17: Nat): Int))=moreN t x17 from by unfold moreN;rw [decide_eq_decide];omega] at ha;have hS:=hS.front 2 rfl;refine lin rfl (o_mapUpdV T124.und T3.und hS hM ha rfl rfl rfl (by omega) (by simp only [maxLen];omega) fun em21 a w hM hS ha=>?_);refine wpList_nil (ar (aa (ab (lin rfl (aF (i:=((k: Nat): Int)) (j:=1) ha rfl rfl rfl (by omega) fun a ha=>?_)))));refine Lm rfl ha fun a ha=>?_;refine wpList_nil (aa (?_));have hS:=hS.front 5 rfl;have hS:=hS.front 5 rfl;have hS:=hS.front 5 rfl;have hS:=hS.front 3 rfl;have hS:=hS.front 5 rfl;have hS:=hS.front 5 rfl;exact⟨(varsN [t]).length - (k+1),by omega,H19,(k+1),em21,(hle15.trans (hc19.le)),rfl,ha.pk rfl,hS,(by rw [mapTo_step hx17];exact hM),(fun j v h h2_=>by
       by_cases e_: j=k
       ·subst e_;rw [hx17] at h2_;obtain rfl:=Option.some.inj h2_;omega
       ·exact hlt j v (by omega) h2_),(by omega)⟩
   ·refine ai ha rfl (wp_exit (aw (aw (aH (aa (wp_seq ?_))))));obtain rfl: k=(varsN [t]).length:=by omega
    refine ab (Lm rfl ha fun a ha=>?_);refine lin rfl (am (vs:=(tL t A c)) T46 rfl ha rfl (hS.blkL 5 rfl) rfl (ag rfl) rfl fun a ha=>?_);have hS:=hS.front 2 rfl;have hS:=hS.front 1 rfl;have hS:=hS.front 2 rfl;have hS:=hS.front 5 rfl;have hS:=hS.front 5 rfl;have hS:=hS.front 5 rfl;have hk23:=c_bbuild (f:=(mapTo t (varsN [t]).length)) hM t _ _ h [] _ _ _ _ _ _ hr (bok_of hok (fun j v hj=>hlt j v (by have h_:=(List.getElem?_eq_some_iff.1 hj).1;omega) hj)) (Row.nil 3 1) (by simp;omega) (hv.at_ (H':=H) hS (bF [en10,(some b3,(.cells #[(iV 0),(iV 0),(.string (⟨#[]⟩)),(.bool false)] 34 (0,0))),(some b1,(.cells (tA t A c) 46 (0,0)))])) hK hO (hS.tail [en10,(some b3,(.cells #[(iV 0),(iV 0),(.string (⟨#[]⟩)),(.bool false)] 34 (0,0))),(some b1,(.cells (tA t A c) 46 (0,0)))]);refine lin rfl (aq func69 rfl rfl (ha.evs rfl) ha rfl (hk23) ?_);rintro e w ⟨H22,L22,en22,A22,c22,he22,hR22,hK22,hO22,hc22⟩;have hmo_:=eM (vars:=vars) (mo:=moreN t) t h [] (fun x hx=>cF (cd hok x hx)) (MO.nil hO);have hbl_:=fm vars (moreN t) t (h, []);obtain⟨bb,hbb⟩: ∃ r_,bldS vars (moreN t) t (h, [])=r_:=⟨_,rfl⟩;rw [hbb] at he22 hR22 hK22 hO22 hc22 hmo_ hbl_;dsimp only at hbl_;rw [List.length_nil] at hbl_;subst he22;refine⟨_,rfl,fun a ha=>?_⟩;have hS:=hS.frameR [en10,(some b3,(.cells #[(iV 0),(iV 0),(.string (⟨#[]⟩)),(.bool false)] 34 (0,0))),(some b1,(.cells (tA t A c) 46 (0,0)))] hc22;refine Lm rfl ha fun a ha=>?_;refine lin rfl (ae (v:=(.agg #[(iV (((wdO bb.2)).tag)),(iV (((wdO bb.2)).n)),(.string (((wdO bb.2)).s)),(.bool (((wdO bb.2)).one))])) ha rfl rfl rfl fun a ha=>?_);refine lin rfl (ae (v:=(.bool bb.2.isSome)) ha rfl rfl rfl fun a ha=>?_);refine lin rfl (aC (cs:= #[(iV 0),(iV 0),(.string (⟨#[]⟩)),(.bool false)]) T34 hS ha rfl rfl fun b24 a w hS ha=>?_);refine lin rfl (ao (cs':= #[(iV (((wdO bb.2)).tag)),(iV (((wdO bb.2)).n)),(.string (((wdO bb.2)).s)),(.bool (((wdO bb.2)).one))]) T34 hS (i:=0) rfl ha rfl rfl rfl rfl rfl rfl fun a w hS ha=>?_);refine Ls rfl ha fun a ha=>?_;refine wpList_nil (aa (wp_seq (wp_seq (ab (Lm rfl ha fun a ha=>?_)))));refine lin rfl (aJ ha rfl rfl fun a ha=>?_);refine wpList_nil (aa (au (t:=78) ha rfl (fun h26 ha=>?_) (fun h26 ha=>?_)))
    ·refine ap ha rfl (wp_seq (wp_seq (ab (Lm rfl ha fun a ha=>?_))));refine lin rfl (aI ha rfl rfl fun a ha=>?_);refine lin rfl (ad (f:=3) (o2:=3) T126 T22 rfl rfl rfl rfl ha rfl rfl fun a ha=>?_);refine lin rfl (af (v:=(.slice A22 bb.1.2.length c22)) T22 rfl ha rfl (hS.blkL 4 rfl) rfl rfl fun a ha=>?_);refine lin rfl (aG T22.und ha rfl rfl fun a ha=>?_);refine Lm rfl ha fun a ha=>?_;refine wpList_nil (aa (wp_block (aO (fun nn_ a w=> ∃(H27: PHeap),∃(k2: Nat),∃(hh: HS),∃(LL: List Ent),Le H22 H27∧nn_=bb.1.2.length - k2∧Has [] a 94 [(0,(pB p)),(6,(pB b3)),(82,(.slice A22 bb.1.2.length c22)),(83,(iV ((bb.1.2.length: Nat): Int))),(84,(iV ((k2: Nat): Int)))]∧Step w0 H L w H27 ((some b24,(.cells #[(iV (((wdO bb.2)).tag)),(iV (((wdO bb.2)).n)),(.string (((wdO bb.2)).s)),(.bool (((wdO bb.2)).one))] 34 (0,0)))::en10::(some b3,(.cells #[(iV 0),(iV 0),(.string (⟨#[]⟩)),(.bool false)] 34 (0,0)))::(some b1,(.cells (tA t A c) 46 (0,0)))::(some b13,(.cells #[(pB p),(.slice Av vars.length cv),(.map (some bm)),(.slice A22 bb.1.2.length c22)] 126 (0,0)))::en22::em::LL)∧(HK p hh LL)∧(MO hh (bb.1.2.drop k2))∧((bb.1.2.drop k2).foldl (fun g a=>HS.clear g a.toNat) hh=bb.1.2.foldl (fun g a=>HS.clear g a.toNat) bb.1.1)∧(k2≤bb.1.2.length)) _ ⟨H22,0,bb.1.1,L22,Le.refl _,rfl,ha.pk rfl,hS,hK22,hmo_,rfl,(by omega)⟩ ?_)));intro n27 a w hh;obtain⟨H27,k2,hh,LL,hle27,hn27,ha,hS,hK2,hMO,hfo,hk2⟩:=hh;refine wp_seq (ab (lin rfl (aQ (i:=((k2: Nat): Int)) (j:=((bb.1.2.length: Nat): Int)) ha rfl rfl rfl fun a ha=>?_)));refine wpList_nil (aa (wp_seq (ak (t:=85) ha rfl (fun h28 ha=>?_) (fun h28 ha=>?_))))
     ·refine ap ha rfl (wp_skip (aa (wp_seq (wp_block (wp_seq (ab ?_))))));obtain⟨b29,cap29,cur29,hv29,he29,hc29, -⟩:=hR22.at_ (j:=k2) (by omega);have hA29:(A22: Option Addr)=some ⟨b29,0,none⟩:=by injection hv29
      obtain⟨x29,hx29⟩: ∃ x,bb.1.2[k2]? =some x:=⟨_,List.getElem?_eq_getElem (by first | omega |(simp;omega))⟩;have hc29:=hc29 0 (iV x29) (by omega) (bw hx29);refine lin rfl (aA (b:=b29) (o:=0) (j:=k2) T22.und T3 hA29 ha rfl rfl (by omega) (by omega) rfl fun a ha=>?_);refine lin rfl (af (v:=(iV x29)) T3 rfl ha rfl (hS.blkL 5 (b:=b29) (o:=.cells cur29 3 (0,0)) (by rw [← he29];rfl)) hc29 rfl fun a ha=>?_);refine Ls rfl ha fun a ha=>?_;refine wpList_nil (aa (ab (Lm rfl ha fun a ha=>?_)));refine Lm rfl ha fun a ha=>?_;obtain⟨ha0_,pb_,hpb_⟩:=hMO.at_ x29 (by rw [aK hx29];exact List.mem_cons_self);obtain⟨bs30,hbs30,hP30⟩:=hK2;have hbk_: ∃ bk_: BK,bs30[(x29).toNat]? =some (some bk_)∧bk_.2=pb_:=by
       rw [← hbs30,dX] at hpb_
       cases hq_: bs30[(x29).toNat]? with
       | none=>rw [hq_] at hpb_;cases hpb_
       | some o_ =>
        rw [hq_] at hpb_
        cases o_ with
        | none=>cases hpb_
        | some bk_=>exact ⟨bk_,rfl,by simpa using hpb_⟩
      obtain⟨bk_,hbj_,rfl⟩:=hbk_;have hfit_:=(hMO.ok.blk _ _ (cx hbs30 hbj_)).2;have hln_:(HS.S hh).length=bs30.length:=by rw [← hbs30,bI]
      have hu_:=HS.Ok.u hMO.ok;have hk31:=eK (a_:=(x29).toNat) (i:=x29) (b:=bk_) (hS.tail [(some b24,(.cells #[(iV (((wdO bb.2)).tag)),(iV (((wdO bb.2)).n)),(.string (((wdO bb.2)).s)),(.bool (((wdO bb.2)).one))] 34 (0,0))),en10,(some b3,(.cells #[(iV 0),(iV 0),(.string (⟨#[]⟩)),(.bool false)] 34 (0,0))),(some b1,(.cells (tA t A c) 46 (0,0))),(some b13,(.cells #[(pB p),(.slice Av vars.length cv),(.map (some bm)),(.slice A22 bb.1.2.length c22)] 126 (0,0))),en22,em]) hP30 (by omega) hbj_ (by omega) (by omega);refine lin rfl (aq func47 rfl rfl (ha.evs rfl) ha rfl (hk31) ?_);rintro e w ⟨L30,t30,rfl, -,hP230,hc⟩;refine⟨_,rfl,fun a ha=>?_⟩;have hS:=hS.frameR [(some b24,(.cells #[(iV (((wdO bb.2)).tag)),(iV (((wdO bb.2)).n)),(.string (((wdO bb.2)).s)),(.bool (((wdO bb.2)).one))] 34 (0,0))),en10,(some b3,(.cells #[(iV 0),(iV 0),(.string (⟨#[]⟩)),(.bool false)] 34 (0,0))),(some b1,(.cells (tA t A c) 46 (0,0))),(some b13,(.cells #[(pB p),(.slice Av vars.length cv),(.map (some bm)),(.slice A22 bb.1.2.length c22)] 126 (0,0))),en22,em] hc;have hK30:=HK.clear (b:=bk_) hbs30 hbj_ hP230;have hMO2_:=MO.clear (a:=x29) (by rw [← aK hx29];exact hMO);refine wpList_nil (ar (aa (ab (lin rfl (aF (i:=((k2: Nat): Int)) (j:=1) ha rfl rfl rfl (by omega) fun a ha=>?_)))));refine Lm rfl ha fun a ha=>?_;refine wpList_nil (aa (?_));have hS:=hS.front 7 rfl;have hS:=hS.drop;have hS:=hS.front 7 rfl;have hS:=hS.drop;have hS:=hS.front 7 rfl;have hS:=hS.drop;exact⟨bb.1.2.length - (k2+1),by omega,H27,(k2+1),(HS.clear hh (x29).toNat),L30,(hle27),rfl,ha.pk rfl,hS,hK30,hMO2_,(by rw [← hfo,clear_step hx29]),(by omega)⟩
     ·refine ai ha rfl (wp_exit (aw (aw (aH (aa (wp_seq (ab (lin rfl (aD (vs:= []) (cells:= [(iV 0),(iV 0),(.string (⟨#[]⟩)),(.bool false)]) T34 PL34 ha (ha.evp rfl) rfl rfl fun a ha=>?_)))))))));refine lin rfl (ao (cs':= #[(iV 0),(iV 0),(.string (⟨#[]⟩)),(.bool false)]) T34 hS (i:=2) rfl ha rfl rfl rfl rfl rfl rfl fun a w hS ha=>?_);refine Ls rfl ha fun a ha=>?_;refine wpList_nil (aa (wp_ret (ah (retA1 (i:=2) (cs:= #[(iV 0),(iV 0),(.string (⟨#[]⟩)),(.bool false)]) rfl T34 rfl hS rfl ha rfl rfl rfl ?_))));have hS:=hS.drop;have hS:=hS.drop;have hS:=hS.drop;have hS:=hS.drop;have hS:=hS.drop;have hS:=hS.drop;have hS:=hS.drop;have han_:=anyle_none (vs:=varsN [t]) (n:=(vars.length: Int)) (fun j v hj=>hlt j v (by have h_:=(List.getElem?_eq_some_iff.1 hj).1;omega) hj);have hbn_: bb.2=none:=Option.not_isSome_iff_eq_none.1 (by simpa using h26);have hbe_: bb=(bb.1,none):=by rw [← hbn_]
      have hq_: h.build t vars=(hh,(Wd.zero,210)):=by
       unfold HS.build;rw [if_neg (by rw [hok];simp),if_neg (by rw [hal_];simp),if_neg (by rw [han_];simp),hbb,hbe_];dsimp only;rw [← hfo,List.drop_of_length_le (by omega)];rfl
      rw [hq_];exact⟨_,_,rfl,hK2,hS⟩
    ·refine ai ha rfl (wp_skip (aa (wp_seq (ab (lin rfl (am (vs:= [(iV (((wdO bb.2)).tag)),(iV (((wdO bb.2)).n)),(.string (((wdO bb.2)).s)),(.bool (((wdO bb.2)).one))]) T34 rfl ha rfl (hS.blkL 0 rfl) rfl (ag rfl) rfl fun a ha=>?_))))));refine lin rfl (ao (cs':= #[(iV (((wdO bb.2)).tag)),(iV (((wdO bb.2)).n)),(.string (((wdO bb.2)).s)),(.bool (((wdO bb.2)).one))]) T34 hS (i:=2) rfl ha rfl rfl rfl rfl rfl rfl fun a w hS ha=>?_);refine Ls rfl ha fun a ha=>?_;refine wpList_nil (aa (wp_ret (retA1 (i:=2) (cs:= #[(iV (((wdO bb.2)).tag)),(iV (((wdO bb.2)).n)),(.string (((wdO bb.2)).s)),(.bool (((wdO bb.2)).one))]) rfl T34 rfl hS rfl ha rfl rfl rfl ?_)));have hS:=hS.drop;have hS:=hS.drop;have hS:=hS.drop;have hS:=hS.drop;have hS:=hS.drop;have hS:=hS.drop;have hS:=hS.drop;have han_:=anyle_none (vs:=varsN [t]) (n:=(vars.length: Int)) (fun j v hj=>hlt j v (by have h_:=(List.getElem?_eq_some_iff.1 hj).1;omega) hj);obtain⟨y_,hy_⟩:=Option.isSome_iff_exists.1 (show bb.2.isSome=true by simpa using h26);have hbe_: bb=(bb.1,some y_):=by rw [← hy_]
     have hq_: h.build t vars=(bb.1.1,(y_,0)):=by
      unfold HS.build;rw [if_neg (by rw [hok];simp),if_neg (by rw [hal_];simp),if_neg (by rw [han_];simp),hbb,hbe_]
     rw [hq_,hy_];exact⟨_,_,rfl,hK22,hS⟩
end Go.Vk.Try
namespace Go.Vk.Try
open Go.RowKit
set_option maxHeartbeats 1000000 in
theorem c_hang {w0: World} {H: PHeap} {L: List Ent} {p: Nat} {h: HS} (hI: Inv w0 H L) (hK: HK p h L) (hO: h.Ok) {v: Wd} {A: Option Addr} {c: Nat} {gs: List Int} (hr: RowI H A c gs): Calls prog 38 #[(pB p),(.agg #[(iV v.tag),(iV v.n),(.string v.s),(.bool v.one)]),(.slice A gs.length c)] w0 (fun e w'=> ∃ H' L' A c en,e=.returned (.slice A (hangS v gs (h, [])).2.length c)∧Row (.slice A (hangS v gs (h, [])).2.length c) en 3 1 (hangS v gs (h, [])).2.length (ints (hangS v gs (h, [])).2)∧HK p (hangS v gs (h, [])).1 L'∧Step w0 H L w' H' (en::L')):=by
 have hS:=Step.refl hI;have hlr:=hr.len;refine enter [(pB p),(.agg #[(iV v.tag),(iV v.n),(.string v.s),(.bool v.one)]),(.slice A gs.length c)] func38 rfl ntmps38 rfl fun a ha=>?_;refine wp_seq (ab (lin rfl (aL (cs:= #[(iV v.tag),(iV v.n),(.string v.s),(.bool v.one)]) hS ha rfl rfl rfl fun b1 a w hS ha=>?_)));refine Ls rfl ha fun a ha=>?_;refine wpList_nil (aa (wp_seq (ab (Ls rfl ha fun a ha=>?_))));refine wpList_nil (aa (wp_seq (wp_seq (ab (Lm rfl ha fun a ha=>?_)))));refine lin rfl (aG T22.und ha rfl rfl fun a ha=>?_);refine Lm rfl ha fun a ha=>?_;refine wpList_nil (aa (wp_block ?_));have hS:=hS.cons_none (en:=noEnt) rfl;refine aO (fun nn_ a w=> ∃(H4: PHeap),∃(k: Nat),∃(hh: HS),∃(LL: List Ent),∃(xs_0: List Int),∃(en_0: Ent),∃(A_0: Option Addr),∃(c_0: Nat),Le H H4∧nn_=gs.length - k∧Has [] a 33 [(0,(pB p)),(4,(pB b1)),(7,(.slice A_0 xs_0.length c_0)),(10,(.slice A gs.length c)),(11,(iV ((gs.length: Nat): Int))),(12,(iV ((k: Nat): Int)))]∧Step w0 H L w H4 (en_0::(some b1,(.cells #[(iV v.tag),(iV v.n),(.string v.s),(.bool v.one)] 34 (0,0)))::LL)∧(Row (.slice A_0 xs_0.length c_0) en_0 3 1 xs_0.length (ints xs_0))∧(hangS v (gs.drop k) (hh,xs_0)=hangS v gs (h, []))∧(xs_0.length≤k)∧(HK p hh LL)∧(HS.Ok hh)∧(k≤gs.length)) _ ⟨H,0,h,L, [],noEnt,none,0,Le.refl _,rfl,ha.pk rfl,hS,(Row.nil _ _),rfl,(by simp),hK,hO,(by omega)⟩ ?_;intro n4 a w hh;obtain⟨H4,k,hh,LL,xs_0,en_0,A_0,c_0,hle4,hn4,ha,hS,hR_0,hhg,hxl,hK2,hO2,hk⟩:=hh;have hr:=hr.mono hle4;refine wp_seq (ab (lin rfl (aQ (i:=((k: Nat): Int)) (j:=((gs.length: Nat): Int)) ha rfl rfl rfl fun a ha=>?_)));refine wpList_nil (aa (wp_seq (ak (t:=13) ha rfl (fun h5 ha=>?_) (fun h5 ha=>?_))))
 ·refine ap ha rfl (wp_skip (aa (wp_seq (wp_block (wp_seq (ab ?_))))));obtain⟨x6,b6,off6,e6,cs6,fz6,hx6,hA6,hb6,hc6⟩:=hr.get (j:=k) (by omega);refine lin rfl (aA (b:=b6) (o:=off6) (j:=k) T22.und T3 hA6 ha rfl rfl (by omega) (by omega) rfl fun a ha=>?_);refine lin rfl (af (v:=(iV x6)) T3 rfl ha rfl (hS.blkH hb6) (by rw [Nat.mul_one];exact hc6) rfl fun a ha=>?_);refine Ls rfl ha fun a ha=>?_;refine wpList_nil (aa (wp_seq (ab (Lm rfl ha fun a ha=>?_))));refine lin rfl (am (vs:= [(iV v.tag),(iV v.n),(.string v.s),(.bool v.one)]) T34 rfl ha rfl (hS.blkL 1 rfl) rfl (ag rfl) rfl fun a ha=>?_);refine Lm rfl ha fun a ha=>?_;have hk8:=c_Hook (hS.tail [en_0,(some b1,(.cells #[(iV v.tag),(iV v.n),(.string v.s),(.bool v.one)] 34 (0,0)))]) hK2 hO2 (v:=v) (g:=x6);refine lin rfl (aq func45 rfl rfl (ha.evs rfl) ha rfl (hk8) ?_);rintro e w ⟨L7,rfl,hK7,hc7⟩;refine⟨_,rfl,fun a ha=>?_⟩;have hS:=hS.frameR [en_0,(some b1,(.cells #[(iV v.tag),(iV v.n),(.string v.s),(.bool v.one)] 34 (0,0)))] hc7;refine lin rfl (aP (i:=((hh.hook v x6).2)) (j:=0) ha rfl rfl rfl fun a ha=>?_);refine Lm rfl ha fun a ha=>?_;refine ak (t:=21) ha rfl (fun h9 ha=>?_) (fun h9 ha=>?_)
  ·refine ac rfl ha rfl rfl rfl (av ha rfl rfl fun a ha=>?_);refine ac rfl ha rfl rfl rfl (av ha rfl rfl fun a ha=>?_);refine ac rfl ha rfl rfl rfl (aq func41 rfl rfl (ha.evs rfl) ha rfl (bM hS.inv.nil (RdI.of_row hS.inv hR_0 0 rfl (by omega))) ?_);rintro e w ⟨rfl,hc⟩;refine⟨_,rfl,fun a ha=>?_⟩;have hS:=hS.call hc;refine ac rfl ha rfl rfl rfl (aJ ha rfl rfl fun a ha=>?_);refine lin rfl (an ha rfl rfl rfl fun a ha=>?_);refine wpList_nil (aa (au (t:=26) ha rfl (fun h10 ha=>?_) (fun h10 ha=>?_)))
   ·refine ap ha rfl (ab (Lm rfl ha fun a ha=>?_));refine Lm rfl ha fun a ha=>?_;refine lin rfl (bg (vs:= [(0,(iV x6))]) (cells:= [(iV x6)]) T22.und T3 hS ha (ha.evp rfl) rfl rfl rfl rfl fun b11 a w hS ha=>?_);obtain⟨H11,hS,hle11,hb11⟩:=hS.give;have hr11: RowI H11 (some ⟨b11,0,none⟩) 1 [x6]:=RowI.of_lit [x6] hb11 (by simp) rfl;refine lin rfl (aV (news:=(ints [x6])) (xs:=(ints xs_0)) T22.und T3 rfl rfl hS hR_0 ha rfl rfl rfl (fun _=>⟨b11,0,_,_,_,rfl,hS.blkH hb11,ag rfl⟩) (bE rfl) (by omega) rfl rfl fun v12 en12 a w hR12 hS ha=>?_);rw [← List.map_append] at hR12;obtain⟨A12,c12,rfl⟩:=hR12.slice;have hn_:(xs_0.length+1)=(xs_0++ [x6]).length:=by have h_:=hR12.1;simp only [List.length_map] at h_;omega
    rw [show Value.slice A12 (xs_0.length+1) c12=Value.slice A12 (xs_0++ [x6]).length c12 from by rw [hn_]] at ha;rw [hn_] at hR12;refine Ls rfl ha fun a ha=>?_;refine wpList_nil (ar (aa (ab (lin rfl (aF (i:=((k: Nat): Int)) (j:=1) ha rfl rfl rfl (by omega) fun a ha=>?_)))));refine Lm rfl ha fun a ha=>?_;refine wpList_nil (aa (?_));exact⟨gs.length - (k+1),by omega,H11,(k+1),(hh.hook v x6).1,L7,(xs_0++ [x6]),en12,A12,c12,(hle4.trans (hle11)),rfl,ha.pk rfl,hS,hR12,(by
      rw [← hhg,dQ hx6]
      congr 2
      have hq1_:=h9;have hq2_:=h10;rw [if_pos ⟨hq1_,by cases h_: xs_0.contains x6 with
       | false=>rfl
       | true=>rw [h_] at hq2_;cases hq2_⟩]),(by first | omega |(simp;omega)),hK7,(show HS.Ok (hh.hook v x6).1 from HS.Ok.hook hO2 _ _),(by omega)⟩
   ·refine ai ha rfl (wp_skip (ar (aa (ab (lin rfl (aF (i:=((k: Nat): Int)) (j:=1) ha rfl rfl rfl (by omega) fun a ha=>?_))))));refine Lm rfl ha fun a ha=>?_;refine wpList_nil (aa (?_));exact⟨gs.length - (k+1),by omega,H4,(k+1),(hh.hook v x6).1,L7,xs_0,en_0,A_0,c_0,(hle4),rfl,ha.pk rfl,hS,hR_0,(by
      rw [← hhg,dQ hx6]
      congr 2
      have hq1_:=h9;have hq2_:=h10;rw [if_neg (fun e_=>by rw [e_.2] at hq2_;cases hq2_)]),(by first | omega |(simp;omega)),hK7,(show HS.Ok (hh.hook v x6).1 from HS.Ok.hook hO2 _ _),(by omega)⟩
  ·refine Lf rfl ha rfl rfl fun a ha=>?_;refine Lf rfl ha rfl rfl fun a ha=>?_;refine Lf rfl ha rfl rfl fun a ha=>?_;refine Lf rfl ha rfl rfl fun a ha=>?_;refine lin rfl (aj ha rfl rfl rfl fun a ha=>?_);refine wpList_nil (aa (ai ha rfl (wp_skip (ar (aa (ab (lin rfl (aF (i:=((k: Nat): Int)) (j:=1) ha rfl rfl rfl (by omega) fun a ha=>?_))))))));refine Lm rfl ha fun a ha=>?_;refine wpList_nil (aa (?_));exact⟨gs.length - (k+1),by omega,H4,(k+1),(hh.hook v x6).1,L7,xs_0,en_0,A_0,c_0,(hle4),rfl,ha.pk rfl,hS,hR_0,(by
     rw [← hhg,dQ hx6]
     congr 2
     have hq1_:=h9;rw [if_neg (fun e_=>hq1_ e_.1)]),(by first | omega |(simp;omega)),hK7,(show HS.Ok (hh.hook v x6).1 from HS.Ok.hook hO2 _ _),(by omega)⟩
 ·refine ai ha rfl (wp_exit (aw (aw (aH (aa (wp_seq (ab (Lm rfl ha fun a ha=>?_))))))));refine Ls rfl ha fun a ha=>?_;refine wpList_nil (aa (wp_ret (ret1 rfl ha rfl ?_)));have hS:=hS.front 1 rfl;have hS:=hS.drop;obtain rfl: k=gs.length:=by omega
  rw [List.drop_length,hangS] at hhg;rw [← hhg];exact⟨_,_,_,_,_,rfl,hR_0,hK2,hS⟩
end Go.Vk.Try
namespace Go.Vk.Try
open Go.RowKit
end Go.Vk.Try
namespace Go.Vk.Try
open Go.RowKit
end Go.Vk.Try
namespace Go.Vk
open Go.RowKit
def runT (a b: Nat): List Bool:=List.replicate a true++List.replicate b false
theorem runT_len (a b: Nat):(runT a b).length=a+b:=by unfold runT;simp
theorem runT_free {a b j: Nat} (h: a≤j) (hj: j < a+b):(runT a b)[j]? =some false:=by
 unfold runT;rw [List.getElem?_append_right (by simpa using h),List.getElem?_replicate,if_pos (by simp;omega)]
theorem runT_taken {a b j: Nat} (h: j < a):(runT a b)[j]? =some true:=by
 unfold runT;rw [List.getElem?_append_left (by simpa using h),List.getElem?_replicate,if_pos h]
theorem findS_run {a b size: Nat} (h1: 1≤size) (h: size≤b): findS (runT a b) size=(a: Int):=by
 obtain⟨p,h2,h3⟩:=eq (tk:=runT a b) (size:=size) (q:=a) (by rw [runT_len];omega) (fun j h4 h5=>runT_free h4 (by omega)) ((runT a b).length+1) 0 (by omega) (by omega)
 rcases bN (runT a b) size with h4 |⟨p',h4,h5,h6⟩
 ·unfold findS at h4;omega
 ·have h7: p'=p:=by unfold findS at h4;omega
  subst h7;have h8: ¬ p' < a:=fun hc=>by
   have:=h6 p' (Nat.le_refl _) (by omega);rw [runT_taken hc] at this
   cases this
  rw [h4,show p'=a by omega]
theorem fill_run {a b n: Nat} (h: n≤b): fillP (runT a b) a n true=runT (a+n) (b - n):=by
 unfold fillP runT;rw [List.take_left' (by simp),List.drop_append,List.drop_of_length_le (by simp),List.nil_append,List.length_replicate,List.drop_replicate,List.replicate_append_replicate,show b - (a+n - a)=b - n by omega]
end Go.Vk
namespace Go.Vk.Try
open Go.RowKit
theorem bP {w0: World} {H: PHeap} (hI: Inv w0 H []) {ta tb: Tm} {A A': Option Addr} {c c': Nat} (hr: RowT H A c ta.l) (hr': RowT H A' c' tb.l): Calls prog 22 #[(tv ta A c),(tv tb A' c')] w0 (Rs w0 H (.bool (eqT ta tb))):=by
 have hS:=Step.refl hI;refine enter [(tv ta A c),(tv tb A' c')] func22 rfl ntmps22 rfl fun a ha=>?_;refine wp_seq (ab (lin rfl (aL (cs:=(tA ta A c)) hS ha rfl rfl rfl fun b1 a w hS ha=>?_)));refine lin rfl (aL (cs:=(tA tb A' c')) hS ha rfl rfl rfl fun b3 a w hS ha=>?_);refine Ls rfl ha fun a ha=>?_;refine wpList_nil (aa (wp_seq (ab (lin rfl (am (vs:=(tL ta A c)) T46 rfl ha rfl (hS.blkL 1 rfl) rfl (ag rfl) rfl fun a ha=>?_)))));refine lin rfl (am (vs:=(tL tb A' c')) T46 rfl ha rfl (hS.blkL 0 rfl) rfl (ag rfl) rfl fun a ha=>?_);refine lin rfl (aq func44 rfl rfl (ha.evs rfl) ha rfl (c_Same ta tb _ _ _ _ _ _ hr hr' hS.inv.nil) ?_);rintro e w ⟨rfl,hc⟩;refine⟨_,rfl,fun a ha=>?_⟩;have hS:=hS.call hc;refine Ls rfl ha fun a ha=>?_;refine wpList_nil (aa (wp_ret (ret1 rfl ha rfl ?_)));refine⟨congrArg _ ?_,hS.plain.drop_all⟩;rfl
end Go.Vk.Try
namespace Go.Vk
open Go.RowKit
structure Ext (S S': PS): Prop where
 len: S'.length=S.length
 keep: ∀(j: Nat) (b: PB),S[j]? =some (some b)→S'[j]? =some (some b)
theorem Ext.refl (S: PS): Ext S S:=⟨rfl,fun _ _ h=>h⟩
theorem Ext.trans {S S' S'': PS} (h: Ext S S') (h': Ext S' S''): Ext S S'':=⟨h'.len.trans h.len,fun j b hj=>h'.keep j b (h.keep j b hj)⟩
theorem Ext.at_ {S S': PS} (h: Ext S S') {w: Wd} {b: PB} (hw: atS S w=some b): atS S' w=some b:=by
 obtain⟨h1,h2,h3,h4,h5⟩:=aE hw;exact(cN h1 (by rw [h.len];exact h2) h3 (h.keep _ _ h4)).trans (if_pos h5)
theorem atS_lit {S: PS} {w: Wd} (h: w.tag=1∨w.tag=2∨w.tag=3): atS S w=none:=by
 unfold atS atG
 split
 ·rfl
 ·split
  ·rename_i b hb
   rw [if_neg]
   cases b <;> simp only [PB.tag] <;> omega
  ·rfl
def Firm (S: PS) (w: Wd): Prop:=(w.tag=1∨w.tag=2∨w.tag=3)∨∃ b,atS S w=some b
theorem fol_ext {S S': PS} (h: Ext S S'): ∀(k: Nat) (w x: Wd),folS S k w=(x,true)→Firm S x→folS S' k w=(x,true)
 | 0,w,x,hf,_=>by simp [folS] at hf
 | k+1,w,x,hf,hx=>by
  unfold folS at hf ⊢
  cases ha: atS S w with
  | none =>
   rw [ha] at hf;obtain rfl: w=x:=congrArg Prod.fst hf
   rcases hx with hx |⟨b,hb⟩
   ·rw [atS_lit hx]
   ·rw [ha] at hb;cases hb
  | some b =>
   rw [ha] at hf;rw [h.at_ ha]
   match b,hf with
   | .var (y::ys) hk,hf=>exact fol_ext h k _ _ hf hx
   | .var [] hk,hf=>exact hf
   | .fn s l,hf=>exact hf
   | .vec l,hf=>exact hf
theorem fV {f g: Int→Wd→Int × Option Tm} (hfg: ∀ left w T r,f left w=(r,some T)→g left w=(r,some T)): ∀(ws: List Wd) (left r: Int) (Ts: List Tm),rdL f left ws=(r,some Ts)→rdL g left ws=(r,some Ts)
 | [],left,r,Ts,h=>h
 | w::ws,left,r,Ts,h=>by
  rw [rdL] at h ⊢;dsimp only at h ⊢
  cases hf: f left w with
  | mk r1 o =>
   rw [hf] at h
   cases o with
   | none=>cases h
   | some T =>
    rw [hfg _ _ _ _ hf];dsimp only at h ⊢
    cases hl: rdL f r1 ws with
    | mk r2 o2 =>
     rw [hl] at h
     cases o2 with
     | none=>simp at h
     | some Us =>
      rw [fV hfg ws _ _ _ hl];exact h
theorem gc {S S': PS} (h: Ext S S'): ∀(d: Nat) (left: Int) (w: Wd) (T: Tm) (r: Int),rdS S d left w=(r,some T)→rdS S' d left w=(r,some T)
 | 0,left,w,T,r,hr=>by simp [rdS] at hr
 | d+1,left,w,T,r,hr=>by
  by_cases hs:(followS S w).2=false∨left - 1 < 0
  ·rw [fA (by rcases hs with h | h;exact .inl h;exact .inr (.inl h))] at hr;cases hr
  ·have hf:(followS S w).2=true:=by
    cases hh:(followS S w).2 with
    | true=>rfl
    | false=>exact absurd (.inl hh) hs
   have hl: 0≤left - 1:=Classical.byContradiction fun e=>hs (.inr (by omega));have firm: ∀(hx: Firm S (followS S w).1),followS S' w=followS S w:=by
    intro hx;have h1: folS S (S.length+1) w=((followS S w).1,true):=by
     rw [← hf];rfl
    have h2:=fol_ext h _ _ _ h1 hx
    show folS S' (S'.length+1) w=_
    rw [h.len,h2,← hf]
   by_cases h1:(followS S w).1.tag=1
   ·have he:=firm (.inl (.inl h1));rw [ec hf hl h1] at hr;rw [ec (by rw [he];exact hf) hl (by rw [he];exact h1),he];exact hr
   ·by_cases h2:(followS S w).1.tag=2
    ·have he:=firm (.inl (.inr (.inl h2)));rw [dD hf hl h1 h2] at hr;rw [dD (by rw [he];exact hf) hl (by rw [he];exact h1) (by rw [he];exact h2),he];exact hr
    ·by_cases h3:(followS S w).1.tag=3
     ·have he:=firm (.inl (.inr (.inr h3)));rw [ee hf hl h1 h2 h3] at hr;rw [ee (by rw [he];exact hf) hl (by rw [he];exact h1) (by rw [he];exact h2) (by rw [he];exact h3),he];exact hr
     ·rw [bW hf hl h1 h2 h3] at hr
      cases ha: atS S (followS S w).1 with
      | none=>rw [ha] at hr;cases hr
      | some b =>
       have he:=firm (.inr ⟨b,ha⟩);rw [bW (by rw [he];exact hf) hl (by rw [he];exact h1) (by rw [he];exact h2) (by rw [he];exact h3),he,h.at_ ha];rw [ha] at hr
       match b,hr with
       | .var to hk,hr=>exact hr
       | .fn s ws,hr =>
        dsimp only at hr ⊢
        cases hq: rdL (rdS S d) (left - 1) ws with
        | mk r2 o =>
         rw [hq] at hr
         cases o with
         | none=>simp at hr
         | some Ts=>rw [fV (fun left w T r hh=>gc h d left w T r hh) ws _ _ _ hq];exact hr
       | .vec ws,hr =>
        dsimp only at hr ⊢
        cases hq: rdL (rdS S d) (left - 1) ws with
        | mk r2 o =>
         rw [hq] at hr
         cases o with
         | none=>simp at hr
         | some Ts=>rw [fV (fun left w T r hh=>gc h d left w T r hh) ws _ _ _ hq];exact hr
def RdW (S: PS) (w: Wd) (T: Tm): Prop:= ∀(d: Nat) (left: Int),dep T≤d→(T.sz: Int)≤left→rdS S d left w=(left - T.sz,some T)
theorem RdW.ext {S S': PS} {w: Wd} {T: Tm} (h: RdW S w T) (he: Ext S S'): RdW S' w T:=fun d left h1 h2=>gc he _ _ _ _ _ (h d left h1 h2)
def RdWs (S: PS): List Wd→List Tm→Prop
 | [], []=>True
 | w::ws,T::Ts=>RdW S w T∧RdWs S ws Ts
 | _,_=>False
theorem RdWs.ext {S S': PS} (he: Ext S S'): ∀ {ws: List Wd} {Ts: List Tm},RdWs S ws Ts→RdWs S' ws Ts
 | [], [],_=>trivial
 | w::ws,T::Ts,h=>⟨h.1.ext he,RdWs.ext he h.2⟩
 | [],_::_,h=>h.elim
 | _::_, [],h=>h.elim
theorem RdWs.read {S: PS} {d: Nat}: ∀ {ws: List Wd} {Ts: List Tm} (left: Int),RdWs S ws Ts→depL Ts≤d→(Tm.szL Ts: Int)≤left→rdL (rdS S d) left ws=(left - Tm.szL Ts,some Ts)
 | [], [],left,_,_,_=>by rw [rdL,Tm.szL];simp
 | w::ws,T::Ts,left,h,hd,hl=>by
  rw [depL] at hd;rw [Tm.szL] at hl ⊢;have h1:=h.1 d left (by omega) (by omega);have h2:=RdWs.read (d:=d) (left - T.sz) h.2 (by omega) (by omega);rw [rdL,h1];dsimp only;rw [h2];simp only [Option.map_some]
  congr 1
  omega
 | [],_::_,_,h,_,_=>h.elim
 | _::_, [],_,h,_,_=>h.elim
theorem dx (k n: Int) (s: ByteArray) (l: List Tm):(Tm.mk k n s l).sz=1+Tm.szL l:=by rw [Tm.sz]
theorem cJ (k n: Int) (s: ByteArray) (l: List Tm): dep (.mk k n s l)=depL l+1:=by rw [dep]
theorem RdW.blk {S: PS} {w: Wd} {b: PB} {T: Tm} {ws: List Wd} {Ts: List Tm} (ha: atS S w=some b) (hr: RdWs S ws Ts) (hb:(∃ s,b=.fn s ws∧T=.mk 5 0 s Ts)∨(b=.vec ws∧T=.mk 6 0 ⟨#[]⟩ Ts)): RdW S w T:=by
 have hf: followS S w=(w,true):=by
  unfold followS folS;rw [ha]
  rcases hb with ⟨s,rfl,_⟩ |⟨rfl,_⟩ <;> rfl
 have htag: w.tag=b.tag:=(aE ha).2.2.2.2;have ht: 4 < w.tag:=by
  rw [htag]
  rcases hb with ⟨s,rfl,_⟩ |⟨rfl,_⟩ <;> simp [PB.tag]
 intro d left h1 h2;have hs: T.sz=1+Tm.szL Ts:=by rcases hb with ⟨s,_,rfl⟩ |⟨_,rfl⟩ <;> exact dx _ _ _ _
 have hdp: dep T=depL Ts+1:=by rcases hb with ⟨s,_,rfl⟩ |⟨_,rfl⟩ <;> exact cJ _ _ _ _
 obtain⟨d',rfl⟩: ∃ d',d=d'+1:=⟨d - 1,by omega⟩;rw [bW (by rw [hf]) (by omega) (by rw [hf];show ¬ w.tag=1;omega) (by rw [hf];show ¬ w.tag=2;omega) (by rw [hf];show ¬ w.tag=3;omega),hf];dsimp only;rw [ha];have hl:=hr.read (d:=d') (left - 1) (by omega) (by omega)
 rcases hb with ⟨s,rfl,rfl⟩ |⟨rfl,rfl⟩
 ·dsimp only;rw [hl,hs];simp only [Option.map_some]
  congr 1
  omega
 ·dsimp only;rw [hl,hs];simp only [Option.map_some]
  congr 1
  omega
def VarW (S: PS) (w: Wd): Prop:= ∃ hk,atS S w=some (.var [] hk)
theorem VarW.ext {S S': PS} {w: Wd} (h: VarW S w) (he: Ext S S'): VarW S' w:=by
 obtain⟨hk,h⟩:=h;exact⟨hk,he.at_ h⟩
theorem VarW.sh {S: PS} {w: Wd} (h: VarW S w): VarW S (shW w):=by
 obtain⟨hk,h⟩:=h;exact⟨hk,h⟩
theorem VarW.read {S: PS} {w: Wd} (h: VarW S w): RdW S w (.mk 1 w.n ⟨#[]⟩ []):=by
 obtain⟨hk,ha⟩:=h;have hf: followS S w=(w,true):=by
  unfold followS folS;rw [ha]
 have ht: w.tag=4:=(aE ha).2.2.2.2;intro d left h1 h2;rw [cJ] at h1;rw [dx] at h2 ⊢;rw [Tm.szL] at h2 ⊢;obtain⟨d',rfl⟩: ∃ d',d=d'+1:=⟨d - 1,by omega⟩;rw [bW (by rw [hf]) (by omega) (by rw [hf];show ¬ w.tag=1;omega) (by rw [hf];show ¬ w.tag=2;omega) (by rw [hf];show ¬ w.tag=3;omega),hf];dsimp only;rw [ha];rfl
theorem ff {S: PS} {w: Wd} {T: Tm} (hw:(w.tag=1∧T=.mk 2 w.n ⟨#[]⟩ [])∨(w.tag=2∧T=.mk 3 0 w.s [])∨(w.tag=3∧T=.mk 4 0 w.s [])): RdW S w T:=by
 have htg: w.tag=1∨w.tag=2∨w.tag=3:=by rcases hw with h | h | h <;> omega
 have hf: followS S w=(w,true):=by
  unfold followS folS;rw [atS_lit htg]
 have hs: T.sz=1∧dep T=1:=by rcases hw with ⟨_,rfl⟩ |⟨_,rfl⟩ |⟨_,rfl⟩ <;> exact⟨by rw [dx,Tm.szL],by rw [cJ,depL]⟩
 intro d left h1 h2;obtain⟨d',rfl⟩: ∃ d',d=d'+1:=⟨d - 1,by omega⟩;rw [hs.1]
 rcases hw with ⟨h3,rfl⟩ |⟨h3,rfl⟩ |⟨h3,rfl⟩
 ·rw [ec (by rw [hf]) (by omega) (by rw [hf];exact h3),hf];rfl
 ·rw [dD (by rw [hf]) (by omega) (by rw [hf];show ¬ w.tag=1;omega) (by rw [hf];exact h3),hf];rfl
 ·rw [ee (by rw [hf]) (by omega) (by rw [hf];show ¬ w.tag=1;omega) (by rw [hf];show ¬ w.tag=2;omega) (by rw [hf];exact h3),hf];rfl
section
variable (vars: List Wd)
mutual
def rbT: Tm→Tm
 | .mk k n s l =>
  if k=1 then .mk 1 (vars.getD n.toNat Wd.zero).n ⟨#[]⟩ []
  else if k=2 then .mk 2 n ⟨#[]⟩ []
  else if k=3 then .mk 3 0 s []
  else if k=4 then .mk 4 0 s []
  else if k=5 then .mk 5 0 s (rbL l)
  else .mk 6 0 ⟨#[]⟩ (rbL l)
def rbL: List Tm→List Tm
 | []=> []
 | t::ts=>rbT t::rbL ts
end
end
def era (e: Option Nat) (S: PS): PS:=
 match e with
 | none=>S
 | some j=>S.set j none
def EOk (e: Option Nat) (S: PS): Prop:= ∀ j,e=some j→∃ b,S[j]? =some (some b)
theorem fS (e: Option Nat) (S: PS):(era e S).length=S.length:=by
 cases e with
 | none=>rfl
 | some j=>exact List.length_set
theorem era_at {e: Option Nat} {S: PS} {j: Nat} {b: PB} (h:(era e S)[j]? =some (some b)): S[j]? =some (some b)∧e≠some j:=by
 cases e with
 | none=>exact ⟨h,by simp⟩
 | some i =>
  by_cases hij: i=j
  ·subst hij;simp only [era,List.getElem?_set] at h;rw [if_pos trivial] at h
   split at h <;> cases h
  ·simp only [era] at h;rw [List.getElem?_set_ne hij] at h;exact⟨h,by simpa using hij⟩
theorem ge {e: Option Nat} {S: PS} {j: Nat} {b: PB} (h: S[j]? =some (some b)) (he: e≠some j):(era e S)[j]? =some (some b):=by
 cases e with
 | none=>exact h
 | some i =>
  simp only [era];rw [List.getElem?_set_ne (by simpa using he)];exact h
theorem EOk.ext {e: Option Nat} {S S': PS} (h: EOk e S) (hx: Ext S S'): EOk e S':=fun j hj=>by
 obtain⟨b,hb⟩:=h j hj;exact⟨b,hx.keep _ _ hb⟩
theorem Ext.era {S S': PS} (h: Ext S S') (e: Option Nat): Ext (era e S) (era e S'):=
 ⟨by rw [fS,fS,h.len],fun j b hj=>by
  obtain⟨h1,h2⟩:=era_at hj;exact ge (h.keep _ _ h1) h2⟩
theorem place_ext {h: HS} (hO: h.Ok) (b: PB): Ext h.S (h.place b).1.S:=by
 refine⟨?_,fun j c hj=>dc hO hj⟩;unfold HS.place;dsimp only
 split
 ·rfl
 ·exact List.length_set
theorem place_new {h: HS} (hO: h.Ok) {b: PB} (hb: b.ok) (hp: ¬(h.place b).2 < 0):(h.place b).1.S[(h.place b).2.toNat]? =some (some b)∧0≤(h.place b).2∧∀ c,h.S[(h.place b).2.toNat]?≠some (some c):=by
 have hp2:=hp;rw [bK] at hp2 ⊢
 rcases bN h.tk b.size with h1 |⟨q,h1,h2,h3⟩
 ·omega
 ·have hs:=hb.size;have hl: h.tk.length=h.S.length:=hO.ltk;refine⟨?_,by omega,fun c hc=>?_⟩
  ·unfold HS.place;dsimp only;rw [if_neg hp2]
   show (List.set _ _ _)[_]? =_
   rw [List.getElem?_set,if_pos rfl,if_pos (by rw [h1];omega)]
  ·rw [h1,Int.toNat_natCast] at hc;have h4:=(hO.tkn q).2 ⟨q,c,hc,Nat.le_refl _,by have:=(hO.blk q c hc).1.size;omega⟩;rw [h3 q (Nat.le_refl _) (by omega)] at h4
   cases h4
theorem VarW.word {S: PS} {w: Wd} (h: VarW S w): wordS S w=true:=by
 obtain⟨hk,h⟩:=h;have ht: w.tag=4:=(aE h).2.2.2.2;unfold wordS;rw [if_neg (by omega),if_neg (by omega),if_neg (by omega),h];unfold refB;rw [ht];rfl
theorem fw {S: PS} {w: Wd} {b: PB} (h: atS S w=some b): wordS S w=true:=by
 have ht:=(aE h).2.2.2.2;have h4: w.tag=4∨w.tag=5∨w.tag=6:=by rw [ht];cases b <;> simp [PB.tag]
 unfold wordS;rw [if_neg (by omega),if_neg (by omega),if_neg (by omega),h];unfold refB
 rcases h4 with h4 | h4 | h4 <;> rw [h4] <;> rfl
theorem nodeR_int {t: Tm} (h: nodeR t=true) (hk: t.kind=2): -2147483647≤t.n∧t.n≤2147483647:=by
 unfold nodeR at h;rw [if_neg (by omega),if_pos hk] at h;simp only [Bool.and_eq_true,decide_eq_true_eq] at h;exact h.1.1
theorem nodeR_str {t: Tm} (h: nodeR t=true) (hk: t.kind=4):(t.s.size: Int)≤255:=by
 unfold nodeR at h;rw [if_neg (by omega),if_neg (by omega),if_neg (by omega),if_pos hk] at h;simp only [Bool.and_eq_true,decide_eq_true_eq] at h;exact h.1.2
theorem nodeR_k3 (n: Int) (s: ByteArray) (l: List Tm): nodeR (.mk 3 n s l)=((decide (n=0)&&nameB s)&&decide (((l.length: Nat): Int)=0)):=rfl
theorem nodeR_atom {t: Tm} (h: nodeR t=true) (hk: t.kind=3): nmB t.s=true:=by
 cases t with
 | mk k n s l =>
  have hk: k=3:=hk;subst hk;rw [nodeR_k3,Bool.and_eq_true,Bool.and_eq_true] at h
  show nmB s=true
  unfold nmB;rw [dv];refine gk (by simp [Tm.sz,Tm.szL]) (by simp [dep,depL]) ?_;rw [bQ,nodeR_k3,h.1.2];rfl
structure Made (S: PS) (t: Tm) (w: Wd) (T: Tm): Prop where
 rd: RdW S w T
 word: wordS S w=true
 tag: t.kind=1∨¬ w.tag=4
mutual
theorem bldS_read {vars: List Wd} {mo: Int→Bool} {e: Option Nat}: ∀(t: Tm) (h: HS) (mk: List Int) (w: Wd),MO h mk→EOk e h.S→(∀ x ∈ nds t,nodeR x=true∧(x.kind=1→VarW (era e h.S) (vars.getD x.n.toNat Wd.zero)))→(bldS vars mo t (h,mk)).2=some w→Made (era e (bldS vars mo t (h,mk)).1.1.S) t w (rbT vars t)∧Ext h.S (bldS vars mo t (h,mk)).1.1.S
 | .mk k n s l,h,mk,w,hm,hE,hn,hw=>by
  have hl:=bldL_read (vars:=vars) (mo:=mo) (e:=e) l h mk;have hmo:=fK (vars:=vars) (mo:=mo) l h mk (fun x hx=>cF (hn x (by rw [nds];exact List.mem_cons_of_mem _ hx)).1) hm;have hnd: nodeR (.mk k n s l)=true:=(hn (.mk k n s l) (by rw [nds];exact List.mem_cons_self)).1;rw [rbT]
  by_cases h1: k=1
  ·rw [ed h1] at hw ⊢;rw [if_pos h1];have hv:=(hn (.mk k n s l) (by rw [nds];exact List.mem_cons_self)).2 h1;have hv: VarW (era e h.S) (vars.getD n.toNat Wd.zero):=hv;dsimp only at hw ⊢;obtain rfl:=Option.some.inj hw;refine⟨?_,Ext.refl _⟩
   split
   ·exact⟨hv.sh.read,hv.sh.word,.inl h1⟩
   ·exact⟨hv.read,hv.word,.inl h1⟩
  ·by_cases h2: k=2
   ·rw [bldS_int h1 h2] at hw ⊢;rw [if_neg h1,if_pos h2];obtain rfl:=Option.some.inj hw;have hb:=nodeR_int hnd h2;have hb: -2147483647≤n∧n≤2147483647:=hb;refine⟨⟨ff (.inl ⟨rfl,rfl⟩),?_,.inr (by show ¬(1: Int)=4;omega)⟩,Ext.refl _⟩;unfold wordS;rw [if_pos rfl];simp;omega
   ·by_cases h3: k=3
    ·rw [bldS_atom h1 h2 h3] at hw ⊢;rw [if_neg h1,if_neg h2,if_pos h3];obtain rfl:=Option.some.inj hw;have hb:=nodeR_atom hnd h3;have hb: nmB s=true:=hb;refine⟨⟨ff (.inr (.inl ⟨rfl,rfl⟩)),?_,.inr (by show ¬(2: Int)=4;omega)⟩,Ext.refl _⟩;unfold wordS;rw [if_neg (by show ¬(2: Int)=1;omega),if_pos rfl,hb];rfl
    ·by_cases h4: k=4
     ·rw [bldS_str h1 h2 h3 h4] at hw ⊢;rw [if_neg h1,if_neg h2,if_neg h3,if_pos h4];obtain rfl:=Option.some.inj hw;have hb:=nodeR_str hnd h4;have hb:(s.size: Int)≤255:=hb;refine⟨⟨ff (.inr (.inr ⟨rfl,rfl⟩)),?_,.inr (by show ¬(3: Int)=4;omega)⟩,Ext.refl _⟩;unfold wordS;rw [if_neg (by show ¬(3: Int)=1;omega),if_neg (by show ¬(3: Int)=2;omega),if_pos rfl];simp;omega
     ·rw [if_neg h1,if_neg h2,if_neg h3,if_neg h4]
      cases hq: bldL vars mo l (h,mk) with
      | mk st' o =>
       cases o with
       | none=>rw [bldS_none h1 h2 h3 h4 hq] at hw;cases hw
       | some ws =>
        rw [hq] at hmo;obtain⟨hr,he⟩:=hl ws hm hE (fun x hx=>hn x (by rw [nds];exact List.mem_cons_of_mem _ hx)) (by rw [hq]);rw [hq] at hr he;have hwl: ws.length≤64:=by rw [hmo.2 ws rfl];exact cF hnd
        have hmo1: MO st'.1 st'.2:=hmo.1;obtain⟨b,hb⟩: ∃ b,(if k=5 then PB.fn s ws else PB.vec ws)=b:=⟨_,rfl⟩;obtain⟨tg,htg⟩: ∃ tg,(if k=5 then (5: Int) else 6)=tg:=⟨_,rfl⟩;have hbo: b.ok:=by rw [← hb];split <;> exact hwl
        have hbt: b.tag=tg:=by rw [← hb,← htg];split <;> rfl
        have htg4: ¬ tg=4:=by rw [← htg];split <;> omega
        rw [cQ h1 h2 h3 h4 hq hb htg] at hw ⊢
        by_cases hp:(st'.1.place b).2 < 0
        ·rw [if_pos hp] at hw;cases hw
        ·rw [if_neg hp] at hw ⊢;obtain rfl:=Option.some.inj hw;have hx:=place_ext hmo1.ok b;refine⟨?_,he.trans hx⟩;obtain⟨hS,h0,hnew⟩:=place_new hmo1.ok hbo hp;have hne: e≠some (st'.1.place b).2.toNat:=by
          intro hh;obtain⟨c,hc⟩:=(hE.ext he) _ hh;exact hnew c hc
         have hS2:=ge hS hne;have hlt:=(List.getElem?_eq_some_iff.1 hS2).1;have ha: atS (era e (st'.1.place b).1.S) ⟨tg,(st'.1.place b).2,⟨#[]⟩,true⟩ =some b:=(cN h0 (by show (st'.1.place b).2 < _;omega) rfl hS2).trans (if_pos hbt.symm);refine⟨RdW.blk ha (hr.ext (hx.era e)) ?_,fw ha,.inr htg4⟩
         by_cases h5: k=5
         ·rw [if_pos h5] at hb ⊢;exact .inl ⟨s,hb.symm,rfl⟩
         ·rw [if_neg h5] at hb ⊢;exact .inr ⟨hb.symm,rfl⟩
theorem bldL_read {vars: List Wd} {mo: Int→Bool} {e: Option Nat}: ∀(ts: List Tm) (h: HS) (mk: List Int) (ws: List Wd),MO h mk→EOk e h.S→(∀ x ∈ ndsL ts,nodeR x=true∧(x.kind=1→VarW (era e h.S) (vars.getD x.n.toNat Wd.zero)))→(bldL vars mo ts (h,mk)).2=some ws→RdWs (era e (bldL vars mo ts (h,mk)).1.1.S) ws (rbL vars ts)∧Ext h.S (bldL vars mo ts (h,mk)).1.1.S
 | [],h,mk,ws,hm,hE,hn,hw=>by
  rw [bldL] at hw ⊢;obtain rfl:=Option.some.inj hw;exact⟨by rw [rbL];trivial,Ext.refl _⟩
 | t::ts,h,mk,ws,hm,hE,hn,hw=>by
  have h1:=bldS_read (vars:=vars) (mo:=mo) (e:=e) t h mk;have hmo:=eM (vars:=vars) (mo:=mo) t h mk (fun x hx=>cF (hn x (by rw [ndsL];exact List.mem_append_left _ hx)).1) hm
  cases hq: bldS vars mo t (h,mk) with
  | mk st' o =>
   cases o with
   | none=>rw [cc,hq] at hw;cases hw
   | some w =>
    rw [hq] at hmo;obtain⟨hr,he⟩:=h1 w hm hE (fun x hx=>hn x (by rw [ndsL];exact List.mem_append_left _ hx)) (by rw [hq]);rw [hq] at hr he;have h2:=bldL_read (vars:=vars) (mo:=mo) (e:=e) ts st'.1 st'.2
    cases hq2: bldL vars mo ts st' with
    | mk st'' o2 =>
     cases o2 with
     | none=>rw [cc,hq] at hw;dsimp only at hw;rw [hq2] at hw;cases hw
     | some us =>
      have e_: bldL vars mo (t::ts) (h,mk)=(st'',some (w::us)):=by rw [cc,hq];dsimp only;rw [hq2]
      rw [e_] at hw ⊢;obtain rfl:=Option.some.inj hw;obtain⟨hr2,he2⟩:=h2 us hmo (hE.ext he) (fun x hx=>by
       have h3:=hn x (by rw [ndsL];exact List.mem_append_right _ hx);exact⟨h3.1,fun hk=>(h3.2 hk).ext (he.era e)⟩) (by rw [show (st'.1,st'.2)=st' from rfl,hq2])
      rw [show (st'.1,st'.2)=st' from rfl,hq2] at hr2 he2;exact⟨by rw [rbL];exact⟨hr.rd.ext (he2.era e),hr2⟩,he.trans he2⟩
end
mutual
theorem rbT_sz (vars: List Wd): ∀ t: Tm,(rbT vars t).sz≤t.sz∧dep (rbT vars t)≤dep t
 | .mk k n s l=>by
  have h:=rbL_sz vars l;rw [rbT,dx,cJ]
  split
  ·rw [dx,cJ,Tm.szL,depL];omega
  ·split
   ·rw [dx,cJ,Tm.szL,depL];omega
   ·split
    ·rw [dx,cJ,Tm.szL,depL];omega
    ·split
     ·rw [dx,cJ,Tm.szL,depL];omega
     ·split
      ·rw [dx,cJ];omega
      ·rw [dx,cJ];omega
theorem rbL_sz (vars: List Wd): ∀ ts: List Tm,Tm.szL (rbL vars ts)≤Tm.szL ts∧depL (rbL vars ts)≤depL ts
 | []=>by rw [rbL];exact⟨Nat.le_refl _,Nat.le_refl _⟩
 | t::ts=>by
  have h1:=rbT_sz vars t;have h2:=rbL_sz vars ts;rw [rbL,Tm.szL,Tm.szL,depL,depL];omega
end
theorem RdW.whole {S: PS} {w: Wd} {T: Tm} (h: RdW S w T) (hw: wordS S w=true) (hs: T.sz≤4000) (hd: dep T≤600): readS S w=(T,0):=by
 unfold readS;rw [if_neg (by rw [hw];simp),h 600 4000 hd (by omega)]
end Go.Vk
namespace Go.Vk
theorem var_run {h: HS} {a b: Nat} (htk: h.tk=runT a b) (hb: 1≤b): h.var=(⟨h.S.set a (some (.var [] [])),runT (a+1) (b - 1),h.u+1⟩,(⟨4,(a: Int),⟨#[]⟩,true⟩,0)):=by
 have hf: findS h.tk (PB.var [] []).size=(a: Int):=by rw [htk];exact findS_run (by simp only [PB.size];omega) (by simp only [PB.size];omega)
 unfold HS.var HS.place refW;dsimp only;rw [hf,if_neg (by omega)];dsimp only;rw [if_neg (by omega),Int.toNat_natCast,htk];simp only [PB.size];rw [fill_run hb];rfl
theorem dE {S: PS} {i: Int} {to: List Wd} {hk: List Int} (h0: 0≤i) (h: S[i.toNat]? =some (some (.var to hk))) (o: Bool): atS S ⟨4,i,⟨#[]⟩,o⟩ =some (.var to hk):=by
 have hl:=(List.getElem?_eq_some_iff.1 h).1;exact(cN h0 (by show i < S.length;omega) rfl h).trans (if_pos rfl)
theorem value_var {S: PS} {i: Int} {hk: List Int} (h0: 0≤i) (h: S[i.toNat]? =some (some (.var [] hk))) (o: Bool): valueS S ⟨4,i,⟨#[]⟩,o⟩ =(⟨4,i,⟨#[]⟩,o⟩,0):=by
 have ha:=dE h0 h o;have hw:=VarW.word ⟨hk,ha⟩;have hf: followS S ⟨4,i,⟨#[]⟩,o⟩ =(⟨4,i,⟨#[]⟩,o⟩,true):=by
  unfold followS folS;rw [ha]
 unfold valueS;rw [if_neg (by rw [hw];simp),hf];dsimp only;rw [if_neg (by simp),if_neg (by rw [hw];simp)]
theorem fh {S: PS} {i: Int} {hk: List Int} (h0: 0≤i) (h: S[i.toNat]? =some (some (.var [] hk))) (o: Bool): openS S ⟨4,i,⟨#[]⟩,o⟩ =(some i.toNat,0):=by
 unfold openS;rw [value_var h0 h o];dsimp only;rw [if_neg (by omega),dE h0 h o]
theorem set_sameX {α: Type} {l: List α} {i: Nat} {x: α} (h: l[i]? =some x): l.set i x=l:=by
 apply List.ext_getElem?
 intro j;rw [List.getElem?_set]
 split
 ·rename_i e
  subst e;have:=(List.getElem?_eq_some_iff.1 h).1;rw [if_pos this,h]
 ·rfl
theorem setB_same {h: HS} {i: Nat} {b: PB} (hb: h.S[i]? =some (some b)): h.setB i b=h:=by
 unfold HS.setB;rw [set_sameX hb]
theorem setB_setB (h: HS) (i: Nat) (b c: PB):(h.setB i b).setB i c=h.setB i c:=by
 unfold HS.setB;dsimp only;rw [List.set_set]
theorem dH {h: HS} {i: Nat} {b c: PB} (hb: h.S[i]? =some (some c)):(h.setB i b).S[i]? =some (some b):=by
 have hl:=(List.getElem?_eq_some_iff.1 hb).1
 show (h.S.set i (some b))[i]? =_
 rw [List.getElem?_set,if_pos rfl,if_pos hl]
theorem d8 {h: HS} {i j: Nat} {b: PB} (hij: i≠j):(h.setB i b).S[j]? =h.S[j]?:=List.getElem?_set_ne hij
theorem cW {i: Int} (h0: 0≤i): ∀(gs hk: List Int) (h: HS),h.S[i.toNat]? =some (some (.var [] hk))→hk.length+gs.length≤4000→∃ hk',hangS ⟨4,i,⟨#[]⟩,true⟩ gs (h,hk)=(h.setB i.toNat (.var [] hk'),hk')∧hk'.length≤hk.length+gs.length
 | [],hk,h,hv,hl=>⟨hk,by rw [hangS,setB_same hv],Nat.le_refl _⟩
 | g::gs,hk,h,hv,hl=>by
  rw [List.length_cons] at hl;have ho:=fh h0 hv true;rw [hangS];dsimp only
  by_cases hg: g < 0∨2147483647 < g
  ·have e: h.hook ⟨4,i,⟨#[]⟩,true⟩ g=(h,1):=by
    unfold HS.hook;rw [ho];dsimp only;rw [if_neg (by omega),if_pos hg]
   rw [e];dsimp only;rw [if_neg (by omega)];obtain⟨hk',h1,h2⟩:=cW h0 gs hk h hv (by omega);exact⟨hk',h1,by rw [List.length_cons];omega⟩
  ·by_cases hc: hk.contains g=true
   ·have e: h.hook ⟨4,i,⟨#[]⟩,true⟩ g=(h,0):=by
     unfold HS.hook;rw [ho];dsimp only;rw [if_neg (by omega),if_neg hg,List.getD_eq_getElem?_getD,hv];dsimp only [Option.getD_some];rw [if_pos hc]
    rw [e];dsimp only;rw [if_neg (by rw [hc];simp)];obtain⟨hk',h1,h2⟩:=cW h0 gs hk h hv (by omega);exact⟨hk',h1,by rw [List.length_cons];omega⟩
   ·have hc: hk.contains g=false:=by simpa using hc
    have e: h.hook ⟨4,i,⟨#[]⟩,true⟩ g=(h.setB i.toNat (.var [] (hk++ [g])),0):=by
     unfold HS.hook;rw [ho];dsimp only;rw [if_neg (by omega),if_neg hg,List.getD_eq_getElem?_getD,hv];dsimp only [Option.getD_some];rw [if_neg (by rw [hc];simp),if_neg (by omega)]
    rw [e];dsimp only;rw [if_pos ⟨rfl,hc⟩];obtain⟨hk',h1,h2⟩:=cW h0 gs (hk++ [g]) _ (dH hv) (by simp;omega);rw [setB_setB] at h1;exact⟨hk',h1,by simp at h2 ⊢;omega⟩
theorem cY: ∀(gs l: List Int),(addG l gs).length≤l.length+gs.length
 | [],l=>by rw [addG];exact Nat.le_refl _
 | g::gs,l=>by
  rw [addG];have h:=cY gs (if l.contains g then l else l++ [g]);rw [List.length_cons]
  split at h
  ·rename_i hc;rw [if_pos hc];omega
  ·rename_i hc
   rw [if_neg hc];simp only [List.length_append,List.length_cons,List.length_nil] at h;omega
mutual
theorem varR_keep {v: Int}: ∀(t: Tm) (out: List Int),v ∈ out→v ∈ varR t out
 | .mk k n s l,out,h=>by
  rw [varR];refine dq l _ ?_
  split
  ·exact List.mem_append_left _ h
  ·exact h
theorem dq {v: Int}: ∀(ts: List Tm) (out: List Int),v ∈ out→v ∈ varRL ts out
 | [],out,h=>by rw [varRL];exact h
 | t::ts,out,h=>by rw [varRL];exact dq ts _ (varR_keep t out h)
end
mutual
theorem varR_in {x: Tm} (hk: x.kind=1): ∀(t: Tm) (out: List Int),x ∈ nds t→x.n ∈ varR t out
 | .mk k n s l,out,h=>by
  rw [nds] at h;rw [varR]
  rcases List.mem_cons.1 h with rfl | h
  ·refine dq l _ ?_;have hk: k=1:=hk;subst hk
   show n ∈ _
   cases hc: out.contains n with
   | true =>
    rw [if_neg (by simp)];simpa using hc
   | false=>rw [if_pos (by simp)];exact List.mem_append_right _ List.mem_cons_self
  ·exact fc hk l _ h
theorem fc {x: Tm} (hk: x.kind=1): ∀(ts: List Tm) (out: List Int),x ∈ ndsL ts→x.n ∈ varRL ts out
 | [],out,h=>by rw [ndsL] at h;cases h
 | t::ts,out,h=>by
  rw [ndsL] at h;rw [varRL]
  rcases List.mem_append.1 h with h | h
  ·exact dq ts _ (varR_in hk t out h)
  ·exact fc hk ts _ h
end
theorem vars_max {t: Tm} {n: Int} (h: ¬(0 <(varRL [t] []).length∧n≤maxI (varRL [t] []))): ∀ x ∈ nds t,x.kind=1→x.n < n:=by
 intro x hx hk;have hm: x.n ∈ varRL [t] []:=fc hk [t] [] (by rw [ea];exact hx);have h1:=maxI_ge hm;have h2: 0 <(varRL [t] []).length:=List.length_pos_of_mem hm;omega
theorem wordS_ext {S S': PS} (h: Ext S S') {w: Wd} (hw: wordS S w=true): wordS S' w=true:=by
 unfold wordS at hw ⊢
 split
 ·rename_i h1;rw [if_pos h1] at hw;exact hw
 ·rename_i h1
  rw [if_neg h1] at hw
  split
  ·rename_i h2;rw [if_pos h2] at hw;exact hw
  ·rename_i h2
   rw [if_neg h2] at hw
   split
   ·rename_i h3;rw [if_pos h3] at hw;exact hw
   ·rename_i h3
    rw [if_neg h3] at hw;rw [Bool.and_eq_true] at hw ⊢;refine⟨hw.1,?_⟩;obtain⟨b,hb⟩:=Option.isSome_iff_exists.1 hw.2;rw [h.at_ hb];rfl
theorem era_ext (e: Option Nat) (S S': PS) (hl: S'.length=S.length) (h: ∀ j,e≠some j→S'[j]? =S[j]?): Ext (era e S) S':=
 ⟨by rw [fS,hl],fun j b hj=>by
  obtain⟨h1,h2⟩:=era_at hj;rw [h j h2];exact h1⟩
def BX (S: PS) (x: Wd): Prop:=(∃ o,x=⟨4,1,⟨#[]⟩,o⟩)∨(¬ x.tag=4∧wordS (era (some 0) S) x=true∧∃ T,RdW (era (some 0) S) x T∧T.sz≤4000∧dep T≤600)
theorem rdS_fol {S: PS} {w w': Wd} (h: followS S w=followS S w') (d: Nat) (left: Int): rdS S d left w=rdS S d left w':=by
 cases d with
 | zero=>rfl
 | succ d=>unfold rdS;rw [h]
theorem nxt_one {v x: Wd} (h: v.one=true): nxtW v x=x:=by
 unfold nxtW;rw [h,Bool.and_true]
 split <;> rfl
theorem fol_novar {S: PS} {x: Wd} (h: ¬ x.tag=4) (k: Nat): folS S (k+1) x=(x,true):=by
 unfold folS
 split
 ·rename_i y ys hk ha
  exact absurd ((aE ha).2.2.2.2) h
 ·rfl
theorem read_bound {S: PS} {v x: Wd} {hk: List Int} {T: Tm} (hv: atS S v=some (.var [x] hk)) (ho: v.one=true) (hx: ∀ k,folS S (k+1) x=(x,true)) (hw: wordS S x=true) (hr: RdW S x T) (hs: T.sz≤4000) (hd: dep T≤600): readS S v=(T,0)∧readS S x=(T,0)∧valueS S x=(x,0):=by
 have hl:=(aE hv).2.1;have h0:=(aE hv).1;obtain⟨m,hm⟩: ∃ m,S.length=m+1:=⟨S.length - 1,by omega⟩;have h1: followS S x=(x,true):=hx _;have h2: followS S v=(x,true):=by
  unfold followS folS;rw [hv];dsimp only;rw [nxt_one ho,hm];exact hx m
 have h3:=hr.whole hw hs hd;refine⟨?_,h3,?_⟩
 ·unfold readS;rw [if_neg (by rw [fw hv];simp),rdS_fol (h2.trans h1.symm),hr 600 4000 hd (by omega)]
 ·unfold valueS;rw [if_neg (by rw [hw];simp),h1];dsimp only;rw [if_neg (by simp),if_neg (by rw [hw];simp)]
abbrev w0_: Wd:=⟨4,0,⟨#[]⟩,true⟩
abbrev gl: Wd:=⟨4,1,⟨#[]⟩,true⟩
theorem db {h: HS} {hk0 hk1: List Int} (h0: h.S[0]? =some (some (.var [] hk0))) (h1: h.S[1]? =some (some (.var [] hk1))) (hl: hk0.length≤20∧hk1.length≤20) {x: Wd} (hx: BX h.S x): ∃ h6 T l,h.bind w0_ x=(h6,(l,0))∧readS h6.S w0_=(T,0)∧readS h6.S x=(T,0)∧valueS h6.S x=(x,0)∧((x.tag=4∧l= []∧hooksS h6.S gl=(addG hk1 hk0,0))∨(¬ x.tag=4∧l=hk0)):=by
 have e0: hooksAt h.S 0=hk0:=by unfold hooksAt;rw [List.getD_eq_getElem?_getD,h0];rfl
 have ho:=fh (i:=0) (by omega) h0 true
 rcases hx with ⟨o,rfl⟩ |⟨h4,hw,T,hr,hs,hd⟩
 ·have hv:=value_var (i:=1) (by omega) h1 o;have ha:=dE (i:=1) (by omega) h1 o;have hal:=cY hk0 hk1;have hb: h.bind w0_ ⟨4,1,⟨#[]⟩,o⟩ =((h.setB 1 (.var [] (addG hk1 hk0))).setB 0 (.var [⟨4,1,⟨#[]⟩,o⟩] []),([],0)):=by
   unfold HS.bind;rw [ho,hv];dsimp only;rw [if_neg (by omega),if_neg (by omega),ha];dsimp only;rw [if_neg (by decide),show (0: Int).toNat=0 from rfl,e0,if_neg (by omega)];rfl
  have hn1:((h.setB 1 (.var [] (addG hk1 hk0))).setB 0 (.var [⟨4,1,⟨#[]⟩,o⟩] [])).S[1]? =some (some (.var [] (addG hk1 hk0))):=by rw [d8 (by decide)];exact dH h1
  have hn0:((h.setB 1 (.var [] (addG hk1 hk0))).setB 0 (.var [⟨4,1,⟨#[]⟩,o⟩] [])).S[0]? =some (some (.var [⟨4,1,⟨#[]⟩,o⟩] [])):=dH (c:=.var [] hk0) (by rw [d8 (by decide)];exact h0);have ha1:=dE (i:=1) (by omega) hn1 o;have ha0:=dE (i:=0) (by omega) hn0 true;obtain⟨r1,r2,r3⟩:=read_bound ha0 rfl (x:=⟨4,1,⟨#[]⟩,o⟩) (fun k=>by unfold folS;rw [ha1]) (VarW.word ⟨_,ha1⟩) (VarW.read ⟨_,ha1⟩) (by simp [dx,Tm.szL]) (by simp [cJ,depL]);refine⟨_,_,_,hb,r1,r2,r3,.inl ⟨rfl,rfl,?_⟩⟩;unfold hooksS;rw [fh (i:=1) (by omega) hn1 true];dsimp only;rw [if_neg (by omega)];unfold hooksAt;rw [List.getD_eq_getElem?_getD,show (1: Int).toNat=1 from rfl,hn1];rfl
 ·have hE: Ext (era (some 0) h.S) h.S:=era_ext _ _ _ rfl (fun _ _=>rfl);have hw1:=wordS_ext hE hw;have hf: followS h.S x=(x,true):=fol_novar h4 _;have hv: valueS h.S x=(x,0):=by
   unfold valueS;rw [if_neg (by rw [hw1];simp),hf];dsimp only;rw [if_neg (by simp),if_neg (by rw [hw1];simp)]
  have hb: h.bind w0_ x=(h.setB 0 (.var [x] []),(hk0,0)):=by
   unfold HS.bind;rw [ho,hv];dsimp only;rw [if_neg (by omega),if_neg (by omega)]
   split
   ·rename_i ha;exact absurd (aE ha).2.2.2.2 h4
   ·rw [show (0: Int).toNat=0 from rfl,e0]
  have hn0:(h.setB 0 (.var [x] [])).S[0]? =some (some (.var [x] [])):=dH h0;have hE2: Ext (era (some 0) h.S) (h.setB 0 (.var [x] [])).S:=era_ext _ _ _ List.length_set (fun j hj=>d8 (fun e=>hj (by rw [e])));obtain⟨r1,r2,r3⟩:=read_bound (dE (i:=0) (by omega) hn0 true) rfl (x:=x) (fun k=>fol_novar h4 k) (wordS_ext hE2 hw) (hr.ext hE2) hs hd;exact⟨_,_,_,hb,r1,r2,r3,.inr ⟨h4,rfl⟩⟩
theorem bound_build {h: HS} (hO: h.Ok) {hk0 hk1: List Int} (h0: h.S[0]? =some (some (.var [] hk0))) (h1: h.S[1]? =some (some (.var [] hk1))) {t: Tm} (ht: isTm t=true) (hv: ∀ x ∈ nds t,x.kind=1→x.n < 200):(h.build t (List.replicate 200 gl)).2.2=210∨∃ w h',h.build t (List.replicate 200 gl)=(h',(w,0))∧h'.S[0]? =some (some (.var [] hk0))∧h'.S[1]? =some (some (.var [] hk1))∧BX h'.S w:=by
 have ha1:=dE (i:=1) (by omega) h1 true;have hal: allS h.S (List.replicate 200 gl)=true:=by
  unfold allS;rw [List.all_eq_true];intro w hw;rw [List.eq_of_mem_replicate hw];exact fw ha1
 have hany:(varsN [t]).any (fun v=>decide (((List.replicate 200 gl).length: Int)≤v))=false:=by
  rw [List.any_eq_false];intro v hv2;have:=fT (p:=fun v=>v < 200) (ndsL [t]) [] (fun v hv=>by cases hv) (by rw [ea];exact hv) v hv2;simp only [List.length_replicate,decide_eq_true_eq]
  show ¬(200: Int)≤v
  omega
 unfold HS.build;rw [if_neg (by rw [ht];simp),if_neg (by rw [hal];simp),if_neg (by rw [hany];simp)];have hsz:=d6 ht;have hdp: dep t≤600:=(cG (by rw [← dv];exact ht)).2.1;have hE: EOk (some 0) h.S:=fun j hj=>by
  obtain rfl:=Option.some.inj hj;exact⟨_,h0⟩
 have hat: ∀ x ∈ nds t,x.kind=1→(List.replicate 200 gl).getD x.n.toNat Wd.zero=gl:=by
  intro x hx hk;have h2:=dK (cd ht x hx) hk;have h3:=hv x hx hk;rw [List.getD_eq_getElem?_getD,List.getElem?_replicate,if_pos (by omega)];rfl
 have he1:(era (some 0) h.S)[1]? =some (some (.var [] hk1)):=ge h1 (by simp);have key:=bldS_read (vars:=List.replicate 200 gl) (mo:=moreN t) (e:=some 0) t h []
 cases hq: bldS (List.replicate 200 gl) (moreN t) t (h, []) with
 | mk st o =>
  cases o with
  | none=>exact .inl rfl
  | some w =>
   obtain⟨hm,hx⟩:=key w (MO.nil hO) hE (fun x hx=>⟨cd ht x hx,fun hk=>by rw [hat x hx hk];exact⟨_,dE (i:=1) (by omega) he1 true⟩⟩) (by rw [hq]);rw [hq] at hm hx;refine .inr ⟨w,_,rfl,hx.keep _ _ h0,hx.keep _ _ h1,?_⟩
   by_cases hk: t.kind=1
   ·left
    have hself: t ∈ nds t:=by cases t;rw [nds];exact List.mem_cons_self
    have h2:=hat t hself hk
    cases t with
    | mk k n s l =>
     have hk: k=1:=hk;rw [ed hk,Prod.mk.injEq] at hq;have h2:(List.replicate 200 gl).getD n.toNat Wd.zero=gl:=h2;rw [h2] at hq;have:=Option.some.inj hq.2;rw [← this]
     split
     ·exact⟨false,rfl⟩
     ·exact⟨true,rfl⟩
   ·have hr:=rbT_sz (List.replicate 200 gl) t;exact .inr ⟨hm.tag.resolve_left hk,hm.word,_,hm.rd,by omega,by omega⟩
theorem bound_law {goals others: List Int} (hg: goals.length≤20) (ho: others.length≤20): ∃(g1 g2 g3 g4: HS) (hk0 hk1: List Int),
  (HS.new 4000).var=(g1,(⟨4,0,⟨#[]⟩,true⟩,0))∧g1.var=(g2,(⟨4,1,⟨#[]⟩,true⟩,0))∧hangS ⟨4,0,⟨#[]⟩,true⟩ goals (g2, [])=(g3,hk0)∧hangS ⟨4,1,⟨#[]⟩,true⟩ others (g3, [])=(g4,hk1)∧hk0.length≤20∧hk1.length≤20∧g4.S[0]? =some (some (.var [] hk0))∧g4.S[1]? =some (some (.var [] hk1)):=by
 have e1:=var_run (h:=HS.new 4000) (a:=0) (b:=4000) (List.nil_append _).symm (by omega);obtain⟨g1,hg1⟩: ∃ g,(⟨(HS.new 4000).S.set 0 (some (.var [] [])),runT (0+1) (4000 - 1),(HS.new 4000).u+1⟩: HS)=g:=⟨_,rfl⟩;rw [hg1] at e1;have e2:=var_run (h:=g1) (a:=1) (b:=3999) (by rw [← hg1]) (by omega);obtain⟨g2,hg2⟩: ∃ g,(⟨g1.S.set 1 (some (.var [] [])),runT (1+1) (3999 - 1),g1.u+1⟩: HS)=g:=⟨_,rfl⟩;rw [hg2] at e2;have hS1: g1.S=(List.replicate 4000 none).set 0 (some (.var [] [])):=by rw [← hg1];rfl
 have hS2: g2.S=g1.S.set 1 (some (.var [] [])):=by rw [← hg2]
 have a0: g2.S[0]? =some (some (.var [] [])):=by
  rw [hS2,hS1,List.getElem?_set_ne (by decide),List.getElem?_set,if_pos rfl,if_pos (by rw [List.length_replicate];omega)]
 have a1: g2.S[1]? =some (some (.var [] [])):=by
  rw [hS2,hS1,List.getElem?_set,if_pos rfl,if_pos (by rw [List.length_set,List.length_replicate];omega)]
 obtain⟨hk0,e3,l0⟩:=cW (i:=0) (by omega) goals [] g2 a0 (by simp;omega);have b0:(g2.setB 0 (.var [] hk0)).S[0]? =some (some (.var [] hk0)):=dH a0;have b1:(g2.setB 0 (.var [] hk0)).S[1]? =some (some (.var [] [])):=by rw [d8 (by decide)];exact a1
 obtain⟨hk1,e4,l1⟩:=cW (i:=1) (by omega) others [] _ b1 (by simp;omega);simp only [List.length_nil] at l0 l1;exact⟨g1,g2,_,_,hk0,hk1,e1,e2,e3,e4,by omega,by omega,by rw [d8 (by decide)];exact b0,dH b1⟩
theorem br {l gs: List Int} {k: Nat} {g: Int} (h: gs[k]? =some g): addG l (gs.drop k)=addG (if l.contains g then l else l++ [g]) (gs.drop (k+1)):=by
 rw [aK h,addG]
theorem dL {l gs: List Int} {k: Nat} (h: gs.length≤k): addG l (gs.drop k)=l:=by
 rw [List.drop_of_length_le h,addG]
end Go.Vk
namespace Go.Vk.Try
open Go.RowKit
theorem aM: ∀ {h: HS} (hO: h.Ok) (v: Wd) (gs out: List Int),(hangS v gs (h,out)).1.Ok
 | h,hO,v, [],out=>by rw [hangS];exact hO
 | h,hO,v,g::gs,out=>by rw [hangS];exact aM (hO.hook v g) v gs _
set_option maxHeartbeats 4000000 in
theorem c_HeapBound {w0: World} {H: PHeap} (hI: Inv w0 H []) {t: Tm} {A: Option Addr} {c: Nat} (hr: RowT H A c t.l) (hz: t.sz≤1048576) (hb: strB t=true) {Ag Ao: Option Addr} {cg co: Nat} {goals others: List Int} (hg: RowI H Ag cg goals) (ho: RowI H Ao co others) {alias: Bool}: Calls prog 8 #[(tv t A c),(.slice Ag goals.length cg),(.slice Ao others.length co),(.bool alias)] w0 (fun e w'=> ∃ H',e=.returned (.bool true)∧Step w0 H [] w' H' []):=by
 have hS:=Step.refl hI;have hlg_:=hg.len;have hlo_:=ho.len;refine enter [(tv t A c),(.slice Ag goals.length cg),(.slice Ao others.length co),(.bool alias)] func8 rfl ntmps8 rfl fun a ha=>?_;refine wp_seq (ab (lin rfl (aL (cs:=(tA t A c)) hS ha rfl rfl rfl fun b1 a w hS ha=>?_)));refine Ls rfl ha fun a ha=>?_;refine wpList_nil (aa (wp_seq (wp_seq (ab ?_))));have hk4:=c_sane hS.inv.nil;refine lin rfl (aq func9 rfl rfl (ha.evs rfl) ha rfl (hk4) ?_);rintro e w ⟨H3,rfl,hc3⟩;refine⟨_,rfl,fun a ha=>?_⟩;have hS:=hS.call hc3;have hr:=hr.mono hc3.le;have hg:=hg.mono hc3.le;have ho:=ho.mono hc3.le;refine lin rfl (aJ ha rfl rfl fun a ha=>?_);refine wpList_nil (aa (ai ha rfl (wp_skip (aa (wp_seq (wp_seq (ab (lin rfl (am (vs:=(tL t A c)) T46 rfl ha rfl (hS.blkL 0 rfl) rfl (ag rfl) rfl fun a ha=>?_)))))))));refine lin rfl (aq func23 rfl rfl (ha.evs rfl) ha rfl (c_plain hS.inv.nil hr (by omega)) ?_);rintro e w ⟨rfl,hc⟩;refine⟨_,rfl,fun a ha=>?_⟩;have hS:=hS.call hc;refine lin rfl (aJ ha rfl rfl fun a ha=>?_);refine Lm rfl ha fun a ha=>?_;refine au (t:=34) ha rfl (fun h5 ha=>?_) (fun h5 ha=>?_)
 ·refine Lf rfl ha rfl rfl fun a ha=>?_;refine Lf rfl ha rfl rfl fun a ha=>?_;refine Lf rfl ha rfl rfl fun a ha=>?_;refine lin rfl (an ha rfl rfl rfl fun a ha=>?_);refine Lm rfl ha fun a ha=>?_;refine Lf rfl ha rfl rfl fun a ha=>?_;refine Lf rfl ha rfl rfl fun a ha=>?_;refine Lf rfl ha rfl rfl fun a ha=>?_;refine lin rfl (an ha rfl rfl rfl fun a ha=>?_);refine Lm rfl ha fun a ha=>?_;refine Lf rfl ha rfl rfl fun a ha=>?_;refine Lf rfl ha rfl rfl fun a ha=>?_;refine Lf rfl ha rfl rfl fun a ha=>?_;refine lin rfl (an ha rfl rfl rfl fun a ha=>?_);refine wpList_nil (aa (ap ha rfl (wp_seq (ab (Ls rfl ha fun a ha=>?_)))));refine wpList_nil (aa (wp_ret (ah (ret1 rfl ha rfl ?_))));exact⟨_,rfl,hS.drop_all⟩
 ·refine ac rfl ha rfl rfl rfl (am (vs:=(tL t A c)) T46 rfl ha rfl (hS.blkL 0 rfl) rfl (ag rfl) rfl fun a ha=>?_);refine ac rfl ha rfl rfl rfl (aq func24 rfl rfl (ha.evs rfl) ha rfl (c_R1Check hS.inv.nil hr (by omega) hb) ?_);rintro e w ⟨rfl,hc⟩;refine⟨_,rfl,fun a ha=>?_⟩;have hS:=hS.call hc;refine ac rfl ha rfl rfl rfl (aX (i:=(if isR t then (0: Int) else 3)) (j:=0) ha rfl rfl rfl fun a ha=>?_);refine lin rfl (aj ha rfl rfl rfl fun a ha=>?_);refine Lm rfl ha fun a ha=>?_;refine aT (t:=39) ha rfl (fun h6 ha=>?_) (fun h6 ha=>?_)
  ·have hok: isR t=false:=by
    have h2_:=h6
    cases h_: isR t with
    | true=>rw [h_] at h2_;simp at h2_
    | false=>rfl
   refine Lf rfl ha rfl rfl fun a ha=>?_;refine Lf rfl ha rfl rfl fun a ha=>?_;refine Lf rfl ha rfl rfl fun a ha=>?_;refine lin rfl (an ha rfl rfl rfl fun a ha=>?_);refine Lm rfl ha fun a ha=>?_;refine Lf rfl ha rfl rfl fun a ha=>?_;refine Lf rfl ha rfl rfl fun a ha=>?_;refine Lf rfl ha rfl rfl fun a ha=>?_;refine lin rfl (an ha rfl rfl rfl fun a ha=>?_);refine wpList_nil (aa (ap ha rfl (wp_seq (ab (Ls rfl ha fun a ha=>?_)))));refine wpList_nil (aa (wp_ret (ah (ret1 rfl ha rfl ?_))));exact⟨_,rfl,hS.drop_all⟩
  ·have hok: isR t=true:=by
    have h2_:=h6
    cases h_: isR t with
    | true=>rfl
    | false=>rw [h_] at h2_;simp at h2_
   refine ac rfl ha rfl rfl rfl (av ha rfl rfl fun a ha=>?_);refine ac rfl ha rfl rfl rfl (aG T22.und ha rfl rfl fun a ha=>?_);refine ac rfl ha rfl rfl rfl (cP (i:=((goals.length: Nat): Int)) (j:=20) ha rfl rfl rfl fun a ha=>?_);refine lin rfl (aj ha rfl rfl rfl fun a ha=>?_);refine Lm rfl ha fun a ha=>?_;refine ak (t:=44) ha rfl (fun h7 ha=>?_) (fun h7 ha=>?_)
   ·refine Lf rfl ha rfl rfl fun a ha=>?_;refine Lf rfl ha rfl rfl fun a ha=>?_;refine Lf rfl ha rfl rfl fun a ha=>?_;refine lin rfl (an ha rfl rfl rfl fun a ha=>?_);refine wpList_nil (aa (ap ha rfl (wp_seq (ab (Ls rfl ha fun a ha=>?_)))));refine wpList_nil (aa (wp_ret (ah (ret1 rfl ha rfl ?_))));exact⟨_,rfl,hS.drop_all⟩
   ·refine ac rfl ha rfl rfl rfl (av ha rfl rfl fun a ha=>?_);refine ac rfl ha rfl rfl rfl (aG T22.und ha rfl rfl fun a ha=>?_);refine ac rfl ha rfl rfl rfl (cP (i:=((others.length: Nat): Int)) (j:=20) ha rfl rfl rfl fun a ha=>?_);refine lin rfl (aj ha rfl rfl rfl fun a ha=>?_);refine wpList_nil (aa (ak (t:=48) ha rfl (fun h8 ha=>?_) (fun h8 ha=>?_)))
    ·refine ap ha rfl (wp_seq (ab (Ls rfl ha fun a ha=>?_)));refine wpList_nil (aa (wp_ret (ah (ret1 rfl ha rfl ?_))));exact⟨_,rfl,hS.drop_all⟩
    ·refine ai ha rfl (wp_skip (aa (wp_seq ?_)));have hTm_: isTm t=true:=by rw [dv];exact hok
     have hsz_:=d6 hTm_;have htog_: togB [t]=true:=by
      unfold togB;rw [List.all_cons,List.all_nil,hok,d4];exact decide_eq_true (by omega)
     refine ab ?_;have hk10:=c_hNew (n:=4000) hS.inv.nil;refine lin rfl (aq func10 rfl rfl (ha.evs rfl) ha rfl (hk10) ?_);rintro e w hN_;obtain⟨p9,L9,rfl,hK9,hc9⟩:=newR_ok hN_ (by omega);refine⟨_,rfl,fun a ha=>?_⟩;have hS:=(Step.frame (Lc:= []) (R:= [(some b1,(.cells (tA t A c) 46 (0,0)))]) hS hc9).perm List.perm_append_comm;obtain⟨hs11,hd11⟩: ∃ s_,s_=(HS.new (Int.toNat 4000)):=⟨_,rfl⟩;rw [← hd11] at hK9;have hO11: HS.Ok hs11:=by rw [hd11];exact HS.Ok.new (by decide)
     refine Lm rfl ha fun a ha=>?_;refine lin rfl (ae (v:=(pB p9)) ha rfl rfl rfl fun a ha=>?_);refine lin rfl (ae (v:=(iV 0)) ha rfl rfl rfl fun a ha=>?_);refine Ls rfl ha fun a ha=>?_;refine Ls rfl ha fun a ha=>?_;refine wpList_nil (aa (wp_seq (wp_seq (ab (Lm rfl ha fun a ha=>?_)))));refine lin rfl (aX (i:=0) (j:=0) ha rfl rfl rfl fun a ha=>?_);refine Lm rfl ha fun a ha=>?_;refine ac rfl ha rfl rfl rfl (av ha rfl rfl fun a ha=>?_);refine ac rfl ha rfl rfl rfl (a8 T24.und T88 ha rfl rfl rfl fun a ha=>?_);refine lin rfl (aj ha rfl rfl rfl fun a ha=>?_);refine wpList_nil (aa (ai ha rfl (wp_skip (aa (wp_seq ?_)))));have hbl_:=bound_law (goals:=goals) (others:=others) (by omega) (by omega);rw [show HS.new 4000=hs11 from hd11.symm] at hbl_;obtain⟨g1_,g2_,g3_,g4_,hk0_,hk1_,e1_,e2_,e3_,e4_,l0_,l1_,b0_,b1_⟩:=hbl_;refine ab (Lm rfl ha fun a ha=>?_);have hk13:=ga (hS.tail [(some b1,(.cells (tA t A c) 46 (0,0)))]) hK9 hO11;rw [e1_] at hk13;dsimp only at hk13;refine lin rfl (aq func27 rfl rfl (ha.evs rfl) ha rfl (hk13) ?_);rintro e w ⟨L12,rfl,hK12,hc12⟩;refine⟨_,rfl,fun a ha=>?_⟩;have hS:=hS.frameR [(some b1,(.cells (tA t A c) 46 (0,0)))] hc12;have hO14: HS.Ok g1_:=(show HS.Ok g1_ by have h_:=HS.Ok.var hO11;rw [e1_] at h_;exact h_);refine Lm rfl ha fun a ha=>?_;refine lin rfl (ae (v:=(.agg #[(iV 4),(iV 0),(.string (⟨#[]⟩)),(.bool true)])) ha rfl rfl rfl fun a ha=>?_);refine lin rfl (ae (v:=(iV 0)) ha rfl rfl rfl fun a ha=>?_);refine lin rfl (aC (cs:= #[(iV 0),(iV 0),(.string (⟨#[]⟩)),(.bool false)]) T34 hS ha rfl rfl fun b15 a w hS ha=>?_);refine lin rfl (ao (cs':= #[(iV 4),(iV 0),(.string (⟨#[]⟩)),(.bool true)]) T34 hS (i:=0) rfl ha rfl rfl rfl rfl rfl rfl fun a w hS ha=>?_);refine Ls rfl ha fun a ha=>?_;refine wpList_nil (aa (wp_seq (ab (Lm rfl ha fun a ha=>?_))));have hk18:=ga (hS.tail [(some b15,(.cells #[(iV 4),(iV 0),(.string (⟨#[]⟩)),(.bool true)] 34 (0,0))),(some b1,(.cells (tA t A c) 46 (0,0)))]) hK12 hO14;rw [e2_] at hk18;dsimp only at hk18;refine lin rfl (aq func27 rfl rfl (ha.evs rfl) ha rfl (hk18) ?_);rintro e w ⟨L17,rfl,hK17,hc17⟩;refine⟨_,rfl,fun a ha=>?_⟩;have hS:=hS.frameR [(some b15,(.cells #[(iV 4),(iV 0),(.string (⟨#[]⟩)),(.bool true)] 34 (0,0))),(some b1,(.cells (tA t A c) 46 (0,0)))] hc17;have hO19: HS.Ok g2_:=(show HS.Ok g2_ by have h_:=HS.Ok.var hO14;rw [e2_] at h_;exact h_);refine Lm rfl ha fun a ha=>?_;refine lin rfl (ae (v:=(.agg #[(iV 4),(iV 1),(.string (⟨#[]⟩)),(.bool true)])) ha rfl rfl rfl fun a ha=>?_);refine lin rfl (ae (v:=(iV 0)) ha rfl rfl rfl fun a ha=>?_);refine lin rfl (aC (cs:= #[(iV 0),(iV 0),(.string (⟨#[]⟩)),(.bool false)]) T34 hS ha rfl rfl fun b20 a w hS ha=>?_);refine lin rfl (ao (cs':= #[(iV 4),(iV 1),(.string (⟨#[]⟩)),(.bool true)]) T34 hS (i:=0) rfl ha rfl rfl rfl rfl rfl rfl fun a w hS ha=>?_);refine Ls rfl ha fun a ha=>?_;refine wpList_nil (aa (wp_seq (wp_seq (ab (Lm rfl ha fun a ha=>?_)))));refine lin rfl (aX (i:=0) (j:=0) ha rfl rfl rfl fun a ha=>?_);refine Lm rfl ha fun a ha=>?_;refine ac rfl ha rfl rfl rfl (av ha rfl rfl fun a ha=>?_);refine ac rfl ha rfl rfl rfl (aX (i:=0) (j:=0) ha rfl rfl rfl fun a ha=>?_);refine lin rfl (aj ha rfl rfl rfl fun a ha=>?_);refine wpList_nil (aa (ai ha rfl (wp_skip (aa (wp_seq ?_)))));have hS: Step w0 H [] w H3 (L17++ [(some b20,(.cells #[(iV 4),(iV 1),(.string (⟨#[]⟩)),(.bool true)] 34 (0,0))),(some b15,(.cells #[(iV 4),(iV 0),(.string (⟨#[]⟩)),(.bool true)] 34 (0,0))),(some b1,(.cells (tA t A c) 46 (0,0)))]):=Step.perm (show Step w0 H [] w H3 ([(some b20,(.cells #[(iV 4),(iV 1),(.string (⟨#[]⟩)),(.bool true)] 34 (0,0))),(some b15,(.cells #[(iV 4),(iV 0),(.string (⟨#[]⟩)),(.bool true)] 34 (0,0))),(some b1,(.cells (tA t A c) 46 (0,0)))]++L17) from hS) (List.perm_append_comm (l₁:= [(some b20,(.cells #[(iV 4),(iV 1),(.string (⟨#[]⟩)),(.bool true)] 34 (0,0))),(some b15,(.cells #[(iV 4),(iV 0),(.string (⟨#[]⟩)),(.bool true)] 34 (0,0))),(some b1,(.cells (tA t A c) 46 (0,0)))]) (l₂:=L17));have hS_:=hS;refine As.c_draw_head (ini:=(As.il [(3,L17)])) (sup:=(As.sl [(3,7)])) (als:= [3,7]) (s0:=⟨H3,fun _=>none⟩) (L:= [(some b20,(.cells #[(iV 4),(iV 1),(.string (⟨#[]⟩)),(.bool true)] 34 (0,0))),(some b15,(.cells #[(iV 4),(iV 0),(.string (⟨#[]⟩)),(.bool true)] 34 (0,0))),(some b1,(.cells (tA t A c) 46 (0,0)))]) (N:=202) (E:= [(1,(.slice Ag goals.length cg)),(2,(.slice Ao others.length co)),(3,(.bool alias)),(4,(pB b1)),(9,(pB p9)),(11,(pB b15)),(12,(pB b20))]) 8 [FcV (pB p9),FcV (.agg #[(iV 4),(iV 0),(.string (⟨#[]⟩)),(.bool true)]),FcV (.slice Ag goals.length cg),fun s v=> ∃(A: Option Addr) (c: Nat) (en: Ent) (L': List Ent),s.ax 3=some (en::L')∧v=(.slice A hk0_.length c)∧Row (.slice A hk0_.length c) en 3 1 hk0_.length (ints hk0_)∧HK p9 g3_ L',FcV (pB p9),FcV (.agg #[(iV 4),(iV 1),(.string (⟨#[]⟩)),(.bool true)]),FcV (.slice Ao others.length co),fun s v=> ∃(ep0: Ent) (Lq: List Ent) (A: Option Addr) (c: Nat) (en: Ent) (L': List Ent),s.ax 3=some (ep0::Lq)∧s.ax 7=some (en::ep0::L')∧v=(.slice A hk1_.length c)∧Row (.slice A hk1_.length c) en 3 1 hk1_.length (ints hk1_)∧HK p9 g4_ L'] mixed (by kernel_rfl) (by kernel_rfl) (by kernel_rfl) (by repeat' (first | exact As.Monos.nil | refine As.Monos.cons ?_ ?_ |(intro _ _ _ hl h;exact h) |(rintro _ _ _ hl ⟨A,c,h,hr⟩;exact⟨A,c,h,hr.mono hl.le⟩) |(rintro _ _ _ hl ⟨b,h,hb⟩;exact⟨b,h,hl.le _ _ hb⟩) | exact fun _ _ _ hl ⟨A,c,en,L',h,e,hR,hK⟩=>⟨A,c,en,L',hl.get h,e,hR,hK⟩ | exact fun _ _ _ hl ⟨ep0,Lq,A,c,en,L',hq,h,e,hR,hK⟩=>⟨ep0,Lq,A,c,en,L',hl.get hq,hl.get h,e,hR,hK⟩)) (fun _=>rfl) (show Step w0 H [] w H3 ((L17++([]++ []))++ [(some b20,(.cells #[(iV 4),(iV 1),(.string (⟨#[]⟩)),(.bool true)] 34 (0,0))),(some b15,(.cells #[(iV 4),(iV 0),(.string (⟨#[]⟩)),(.bool true)] 34 (0,0))),(some b1,(.cells (tA t A c) 46 (0,0)))]) from by simpa only [List.nil_append,List.append_nil,List.cons_append,List.append_assoc] using hS) (ha.pk rfl) (As.QuietsI.cons ?_ (As.QuietsI.cons ?_ (As.QuietsI.cons ?_ (As.QuietsI.cons ?_ (As.QuietsI.cons ?_ (As.QuietsI.cons ?_ (As.QuietsI.cons ?_ (As.QuietsI.cons ?_ (As.QuietsI.nil))))))))) (fun f_ a w s_ hls hS ha hdr_=>?_)
     ·refine As.Qx rfl fun a w H_ ax_ hle hax_ hS ha hd hls=>?_;have hSf:=hS;refine id (av ha rfl rfl fun a ha=>?_);exact As.qdone (s:=⟨H_,ax_⟩) (Le.refl _) ha hSf rfl
     ·refine As.Qx rfl fun a w H_ ax_ hle hax_ hS ha hd hls=>?_;have hSf:=hS;have hS:=Step.dropN _ _ hS;refine id (am (vs:= [(iV 4),(iV 0),(.string (⟨#[]⟩)),(.bool true)]) T34 rfl ha rfl (hS.blkL 1 rfl) rfl (ag rfl) rfl fun a ha=>?_);exact As.qdone (s:=⟨H_,ax_⟩) (Le.refl _) ha hSf rfl
     ·refine As.Qx rfl fun a w H_ ax_ hle hax_ hS ha hd hls=>?_;have hSf:=hS;refine id (av ha rfl rfl fun a ha=>?_);exact As.qdone (s:=⟨H_,ax_⟩) (Le.refl _) ha hSf rfl
     ·refine As.Qx rfl fun a w H_ ax_ hle hax_ hS ha hd hls=>?_;obtain⟨_,ha,rfl⟩:=hd.g ha 0 rfl;obtain⟨_,ha,rfl⟩:=hd.g ha 1 rfl;obtain⟨_,ha,rfl⟩:=hd.g ha 2 rfl;have hg:=hg.mono hle;have hlt7_: ax_ 7=none:=hd.late 2 7 (by kernel_rfl);have hE_: As.aents (As.il [(3,L17)]) (As.sl [(3,7)]) [3,7] ax_=(L17):=by
       unfold As.aents;simp only [List.flatMap_cons,List.flatMap_nil,As.conE,show (As.sl [(3,7)]) 3=some 7 from rfl,show (As.sl [(3,7)]) 7=none from rfl,show (As.il [(3,L17)]) 3=L17 from rfl,show (As.il [(3,L17)]) 7= [] from rfl,hax_,hlt7_,Option.isSome_some,Option.isSome_none,Option.getD_some,Option.getD_none,cond_true,cond_false,List.append_nil,List.nil_append]
      have hS: Step w0 H [] w H_ ((L17)++(As.aents (As.il [(3,L17)]) (As.sl [(3,7)]) [] ax_++As.aents (As.il [(3,L17)]) (As.sl [(3,7)]) [] ax_++ [(some b20,(.cells #[(iV 4),(iV 1),(.string (⟨#[]⟩)),(.bool true)] 34 (0,0))),(some b15,(.cells #[(iV 4),(iV 0),(.string (⟨#[]⟩)),(.bool true)] 34 (0,0))),(some b1,(.cells (tA t A c) 46 (0,0)))])):=As.opn (s:=⟨H_,ax_⟩) [] [3,7] [] (L17) rfl hE_ hS;have hS:=Step.perm hS (List.perm_append_comm (l₁:=L17) (l₂:=(As.aents (As.il [(3,L17)]) (As.sl [(3,7)]) [] ax_++As.aents (As.il [(3,L17)]) (As.sl [(3,7)]) [] ax_++ [(some b20,(.cells #[(iV 4),(iV 1),(.string (⟨#[]⟩)),(.bool true)] 34 (0,0))),(some b15,(.cells #[(iV 4),(iV 0),(.string (⟨#[]⟩)),(.bool true)] 34 (0,0))),(some b1,(.cells (tA t A c) 46 (0,0)))])));have hk23:=c_hang (hS.tail ((As.aents (As.il [(3,L17)]) (As.sl [(3,7)]) [] ax_++As.aents (As.il [(3,L17)]) (As.sl [(3,7)]) [] ax_++ [(some b20,(.cells #[(iV 4),(iV 1),(.string (⟨#[]⟩)),(.bool true)] 34 (0,0))),(some b15,(.cells #[(iV 4),(iV 0),(.string (⟨#[]⟩)),(.bool true)] 34 (0,0))),(some b1,(.cells (tA t A c) 46 (0,0)))]))) hK17 hO19 (v:=(Wd.mk 4 0 ⟨#[]⟩ true)) hg;rw [e3_] at hk23;dsimp only at hk23;refine id (aq func38 rfl rfl (ha.evs rfl) ha rfl (hk23) ?_);rintro e w ⟨H22,L22,A22,c22,en22,rfl,hR22,hK22,hc22⟩;refine⟨_,rfl,fun a ha=>?_⟩;have hS:=Step.perm (hS.frameR ((As.aents (As.il [(3,L17)]) (As.sl [(3,7)]) [] ax_++As.aents (As.il [(3,L17)]) (As.sl [(3,7)]) [] ax_++ [(some b20,(.cells #[(iV 4),(iV 1),(.string (⟨#[]⟩)),(.bool true)] 34 (0,0))),(some b15,(.cells #[(iV 4),(iV 0),(.string (⟨#[]⟩)),(.bool true)] 34 (0,0))),(some b1,(.cells (tA t A c) 46 (0,0)))])) hc22) List.perm_middle;have hO24: HS.Ok g3_:=(show HS.Ok g3_ by have h_:=aM hO19 (Wd.mk 4 0 ⟨#[]⟩ true) goals [];rw [e3_] at h_;exact h_);have hS:=Step.perm hS (List.Perm.cons _ (List.perm_append_comm (l₁:=(As.aents (As.il [(3,L17)]) (As.sl [(3,7)]) [] ax_++As.aents (As.il [(3,L17)]) (As.sl [(3,7)]) [] ax_++ [(some b20,(.cells #[(iV 4),(iV 1),(.string (⟨#[]⟩)),(.bool true)] 34 (0,0))),(some b15,(.cells #[(iV 4),(iV 0),(.string (⟨#[]⟩)),(.bool true)] 34 (0,0))),(some b1,(.cells (tA t A c) 46 (0,0)))])) (l₂:=L22)));have hE2_: As.aents (As.il [(3,L17)]) (As.sl [(3,7)]) [3,7] (As.upd ax_ 3 (en22::L22))=(en22::L22):=by
       unfold As.aents;simp only [List.flatMap_cons,List.flatMap_nil,As.conE,show (As.sl [(3,7)]) 3=some 7 from rfl,show (As.sl [(3,7)]) 7=none from rfl,show (As.il [(3,L17)]) 3=L17 from rfl,show (As.il [(3,L17)]) 7= [] from rfl,As.upd_at,show As.upd ax_ 3 (en22::L22) 7=ax_ 7 from rfl,hlt7_,Option.isSome_some,Option.isSome_none,Option.getD_some,Option.getD_none,cond_true,cond_false,List.append_nil,List.nil_append]
      exact As.qown (i:=3) (dst:=some 78) (s:=⟨H_,ax_⟩) (E:=(en22::L22)) [] [3,7] [] rfl rfl hax_ hc22.le ha.dfr (As.has_at ha) hS (.inl hE2_) ⟨A22,c22,en22,L22,rfl,rfl,hR22,hK22⟩
     ·refine As.Qx rfl fun a w H_ ax_ hle hax_ hS ha hd hls=>?_;have hSf:=hS;refine id (av ha rfl rfl fun a ha=>?_);exact As.qdone (s:=⟨H_,ax_⟩) (Le.refl _) ha hSf rfl
     ·refine As.Qx rfl fun a w H_ ax_ hle hax_ hS ha hd hls=>?_;have hSf:=hS;have hS:=Step.dropN _ _ hS;refine id (am (vs:= [(iV 4),(iV 1),(.string (⟨#[]⟩)),(.bool true)]) T34 rfl ha rfl (hS.blkL 0 rfl) rfl (ag rfl) rfl fun a ha=>?_);exact As.qdone (s:=⟨H_,ax_⟩) (Le.refl _) ha hSf rfl
     ·refine As.Qx rfl fun a w H_ ax_ hle hax_ hS ha hd hls=>?_;have hSf:=hS;refine id (av ha rfl rfl fun a ha=>?_);exact As.qdone (s:=⟨H_,ax_⟩) (Le.refl _) ha hSf rfl
     ·refine As.Qx rfl fun a w H_ ax_ hle hax_ hS ha hd hls=>?_;obtain⟨_,ha,rfl⟩:=hd.g ha 4 rfl;obtain⟨_,ha,rfl⟩:=hd.g ha 5 rfl;obtain⟨_,ha,rfl⟩:=hd.g ha 6 rfl;obtain⟨_,ha,A22,c22,en22,Lm22,hx_m22,rfl,hR22,hKm22⟩:=hd.g ha 3 rfl;have hx_m22: ax_ 3=some (en22::Lm22):=hx_m22;have ho:=ho.mono hle;have hE_: As.aents (As.il [(3,L17)]) (As.sl [(3,7)]) [3,7] ax_=(en22::Lm22):=by
       unfold As.aents;simp only [List.flatMap_cons,List.flatMap_nil,As.conE,show (As.sl [(3,7)]) 3=some 7 from rfl,show (As.sl [(3,7)]) 7=none from rfl,show (As.il [(3,L17)]) 3=L17 from rfl,show (As.il [(3,L17)]) 7= [] from rfl,hax_,hx_m22,Option.isSome_some,Option.isSome_none,Option.getD_some,Option.getD_none,cond_true,cond_false,List.append_nil,List.nil_append]
      have hS: Step w0 H [] w H_ ((en22::Lm22)++(As.aents (As.il [(3,L17)]) (As.sl [(3,7)]) [] ax_++As.aents (As.il [(3,L17)]) (As.sl [(3,7)]) [] ax_++ [(some b20,(.cells #[(iV 4),(iV 1),(.string (⟨#[]⟩)),(.bool true)] 34 (0,0))),(some b15,(.cells #[(iV 4),(iV 0),(.string (⟨#[]⟩)),(.bool true)] 34 (0,0))),(some b1,(.cells (tA t A c) 46 (0,0)))])):=As.opn (s:=⟨H_,ax_⟩) [] [3,7] [] (en22::Lm22) rfl hE_ hS;have hS:=Step.perm hS (List.Perm.cons _ (List.perm_append_comm (l₁:=Lm22) (l₂:=(As.aents (As.il [(3,L17)]) (As.sl [(3,7)]) [] ax_++As.aents (As.il [(3,L17)]) (As.sl [(3,7)]) [] ax_++ [(some b20,(.cells #[(iV 4),(iV 1),(.string (⟨#[]⟩)),(.bool true)] 34 (0,0))),(some b15,(.cells #[(iV 4),(iV 0),(.string (⟨#[]⟩)),(.bool true)] 34 (0,0))),(some b1,(.cells (tA t A c) 46 (0,0)))]))));have hk24:=c_hang (hS.tail (en22::(As.aents (As.il [(3,L17)]) (As.sl [(3,7)]) [] ax_++As.aents (As.il [(3,L17)]) (As.sl [(3,7)]) [] ax_++ [(some b20,(.cells #[(iV 4),(iV 1),(.string (⟨#[]⟩)),(.bool true)] 34 (0,0))),(some b15,(.cells #[(iV 4),(iV 0),(.string (⟨#[]⟩)),(.bool true)] 34 (0,0))),(some b1,(.cells (tA t A c) 46 (0,0)))]))) hKm22 (show HS.Ok g3_ by have h_:=aM hO19 (Wd.mk 4 0 ⟨#[]⟩ true) goals [];rw [e3_] at h_;exact h_) (v:=(Wd.mk 4 1 ⟨#[]⟩ true)) ho;rw [e4_] at hk24;dsimp only at hk24;refine id (aq func38 rfl rfl (ha.evs rfl) ha rfl (hk24) ?_);rintro e w ⟨H23,L23,A23,c23,en23,rfl,hR23,hK23,hc23⟩;refine⟨_,rfl,fun a ha=>?_⟩;have hS:=Step.perm (hS.frameR (en22::(As.aents (As.il [(3,L17)]) (As.sl [(3,7)]) [] ax_++As.aents (As.il [(3,L17)]) (As.sl [(3,7)]) [] ax_++ [(some b20,(.cells #[(iV 4),(iV 1),(.string (⟨#[]⟩)),(.bool true)] 34 (0,0))),(some b15,(.cells #[(iV 4),(iV 0),(.string (⟨#[]⟩)),(.bool true)] 34 (0,0))),(some b1,(.cells (tA t A c) 46 (0,0)))])) hc23) List.perm_middle;have hO25: HS.Ok g4_:=(show HS.Ok g4_ by have h_:=aM (show HS.Ok g3_ by have h_:=aM hO19 (Wd.mk 4 0 ⟨#[]⟩ true) goals [];rw [e3_] at h_;exact h_) (Wd.mk 4 1 ⟨#[]⟩ true) others [];rw [e4_] at h_;exact h_);have hS:=Step.perm hS (List.Perm.cons _ (List.Perm.cons _ (List.perm_append_comm (l₁:=(As.aents (As.il [(3,L17)]) (As.sl [(3,7)]) [] ax_++As.aents (As.il [(3,L17)]) (As.sl [(3,7)]) [] ax_++ [(some b20,(.cells #[(iV 4),(iV 1),(.string (⟨#[]⟩)),(.bool true)] 34 (0,0))),(some b15,(.cells #[(iV 4),(iV 0),(.string (⟨#[]⟩)),(.bool true)] 34 (0,0))),(some b1,(.cells (tA t A c) 46 (0,0)))])) (l₂:=L23))));have hE2_: As.aents (As.il [(3,L17)]) (As.sl [(3,7)]) [3,7] (As.upd ax_ 7 (en23::en22::L23))=(en23::en22::L23):=by
       unfold As.aents;simp only [List.flatMap_cons,List.flatMap_nil,As.conE,show (As.sl [(3,7)]) 3=some 7 from rfl,show (As.sl [(3,7)]) 7=none from rfl,show (As.il [(3,L17)]) 3=L17 from rfl,show (As.il [(3,L17)]) 7= [] from rfl,As.upd_at,show As.upd ax_ 7 (en23::en22::L23) 3=ax_ 3 from rfl,hx_m22,Option.isSome_some,Option.isSome_none,Option.getD_some,Option.getD_none,cond_true,cond_false,List.append_nil,List.nil_append]
      exact As.qown (i:=7) (dst:=some 82) (s:=⟨H_,ax_⟩) (E:=(en23::en22::L23)) [] [3,7] [] rfl rfl hax_ hc23.le ha.dfr (As.has_at ha) hS (.inl hE2_) ⟨en22,Lm22,A23,c23,en23,L23,hx_m22,rfl,rfl,hR23,hK23⟩
     obtain⟨H26,ax_⟩:=s_;have hle26: Le H3 H26:=hls.le;dsimp only at hdr_ hS;have hr:=hr.mono hle26;obtain⟨_,hv_,A22,c22,en22,Lm22,hx_m22,rfl,hR22,hKm22⟩:=hdr_ 3 _ _ rfl rfl;have ha:=ha.add (hv_ _ rfl);have hx_m22: ax_ 3=some (en22::Lm22):=hx_m22;obtain⟨_,hv_,p23_0,Lq23,A23,c23,en23,Lm23,hq_23,hx_m23,rfl,hR23,hKm23⟩:=hdr_ 7 _ _ rfl rfl;have ha:=ha.add (hv_ _ rfl);have hlk_:=Option.some.inj (hq_23.symm.trans hx_m22);rw [(List.cons.inj hlk_).1] at hx_m23
     replace hlk_:=(List.cons.inj hlk_).2
     have hx_m23: ax_ 7=some (en23::en22::Lm23):=hx_m23;have hS: Step w0 H [] w H26 (en23::en22::Lm23++ [(some b20,(.cells #[(iV 4),(iV 1),(.string (⟨#[]⟩)),(.bool true)] 34 (0,0))),(some b15,(.cells #[(iV 4),(iV 0),(.string (⟨#[]⟩)),(.bool true)] 34 (0,0))),(some b1,(.cells (tA t A c) 46 (0,0)))]):=by
      have h_:=hS;unfold As.aents at h_;simp only [List.flatMap_cons,List.flatMap_nil,As.conE,show (As.sl [(3,7)]) 3=some 7 from rfl,show (As.sl [(3,7)]) 7=none from rfl,hx_m22,hx_m23,List.append_assoc,Option.isSome_some,Option.getD_some,cond_true,cond_false,List.cons_append,List.nil_append,List.append_nil] at h_;exact h_
     have hS:=Step.perm hS (List.Perm.cons _ (List.Perm.cons _ (List.perm_append_comm (l₁:=Lm23) (l₂:= [(some b20,(.cells #[(iV 4),(iV 1),(.string (⟨#[]⟩)),(.bool true)] 34 (0,0))),(some b15,(.cells #[(iV 4),(iV 0),(.string (⟨#[]⟩)),(.bool true)] 34 (0,0))),(some b1,(.cells (tA t A c) 46 (0,0)))]))));refine any1 (i:=8) (by kernel_rfl) rfl rfl (bL ha rfl rfl fun a ha=>?_);refine any1 (i:=9) (by kernel_rfl) rfl rfl (bL ha rfl rfl fun a ha=>?_);refine any0 (by kernel_rfl) ?_;refine aa (wp_seq (ab (lin rfl (am (vs:=(tL t A c)) T46 rfl ha rfl (hS.blkL 4 rfl) rfl (ag rfl) rfl fun a ha=>?_))));refine lin rfl (bg (vs:= [(0,(tv t A c))]) (cells:=(tL t A c)) T44.und T46 hS ha (ha.evp rfl) rfl rfl rfl rfl fun b27 a w hS ha=>?_);obtain⟨H27,hS,hle27,hb27⟩:=hS.give;have hr:=hr.mono hle27;have hr27: RowT H27 (some ⟨b27,0,none⟩) 1 [t]:=RowT.of_lit ([⟨t,A,c⟩]: List TV) hb27 (AllR.cons hr (AllR.nil _)) (by simp) rfl;have hk29:=c_R1Vars hS.inv.nil hr27 (by rw [d4];omega) (by rw [strBL,strBL,hb];rfl);rw [htog_] at hk29;simp only [if_true] at hk29;refine lin rfl (aq func25 rfl rfl (ha.evs rfl) ha rfl (hk29) ?_);rintro e w ⟨A28,c28,en28,rfl,hR28,hc28⟩;refine⟨_,rfl,fun a ha=>?_⟩;have hS:=hS.call_own hc28;refine Lm rfl ha fun a ha=>?_;refine lin rfl (ae (v:=(.slice A28 ((varRL [t] []).length) c28)) ha rfl rfl rfl fun a ha=>?_);refine lin rfl (ae (v:=(iV 0)) ha rfl rfl rfl fun a ha=>?_);refine Ls rfl ha fun a ha=>?_;refine Ls rfl ha fun a ha=>?_;refine wpList_nil (aa (wp_seq (ab (Ls rfl ha fun a ha=>?_))));refine wpList_nil (aa (wp_seq (wp_seq (ab (Lm rfl ha fun a ha=>?_)))));refine wpList_nil (aa (wp_block ?_));have hS:=hS.cons_none (en:=noEnt) rfl;refine aO (fun nn_ a w=> ∃(H31: PHeap),∃(k: Nat),∃(xs_0: List Wd),∃(en_0: Ent),∃(A_0: Option Addr),∃(c_0: Nat),Le H27 H31∧nn_=200 - k∧Has [] a 202 [(3,(.bool alias)),(4,(pB b1)),(9,(pB p9)),(11,(pB b15)),(12,(pB b20)),(14,(.slice A22 hk0_.length c22)),(15,(.slice A23 hk1_.length c23)),(16,(.slice A28 ((varRL [t] []).length) c28)),(18,(.slice A_0 xs_0.length c_0)),(89,(iV ((k: Nat): Int)))]∧Step w0 H [] w H31 (en_0::en28::en23::en22::(some b20,(.cells #[(iV 4),(iV 1),(.string (⟨#[]⟩)),(.bool true)] 34 (0,0)))::(some b15,(.cells #[(iV 4),(iV 0),(.string (⟨#[]⟩)),(.bool true)] 34 (0,0)))::(some b1,(.cells (tA t A c) 46 (0,0)))::Lm23)∧(Row (.slice A_0 xs_0.length c_0) en_0 34 4 xs_0.length (gfl Wd.cells xs_0))∧(xs_0=List.replicate k gl)∧(xs_0.length=k)∧(k≤200)) _ ⟨H27,0, [],noEnt,none,0,Le.refl _,rfl,ha.pk rfl,hS,(Row.nil _ _),rfl,rfl,(by omega)⟩ ?_;intro n31 a w hh;obtain⟨H31,k,xs_0,en_0,A_0,c_0,hle31,hn31,ha,hS,hR_0,hws,hwl,hk⟩:=hh;have hr:=hr.mono hle31;refine wp_seq (ab (lin rfl (aQ (i:=((k: Nat): Int)) (j:=200) ha rfl rfl rfl fun a ha=>?_)));refine wpList_nil (aa (wp_seq (ak (t:=90) ha rfl (fun h32 ha=>?_) (fun h32 ha=>?_))))
     ·refine ap ha rfl (wp_skip (aa (wp_seq (wp_block (ab (Lm rfl ha fun a ha=>?_))))));refine lin rfl (am (vs:= [(iV 4),(iV 1),(.string (⟨#[]⟩)),(.bool true)]) T34 rfl ha rfl (hS.blkL 4 rfl) rfl (ag rfl) rfl fun a ha=>?_);refine lin rfl (bg (vs:= [(0,(.agg #[(iV 4),(iV 1),(.string (⟨#[]⟩)),(.bool true)]))]) (cells:= [(iV 4),(iV 1),(.string (⟨#[]⟩)),(.bool true)]) T29.und T34 hS ha (ha.evp rfl) rfl rfl rfl rfl fun b33 a w hS ha=>?_);obtain⟨H33,hS,hle33,hb33⟩:=hS.give;obtain⟨brd35,offrd35,erd35,csrd35,fzrd35,h1rd35,h2rd35⟩:=(RowG.of_lit Wd.len ([(Wd.mk 4 1 ⟨#[]⟩ true)]: List Wd) hb33 (by simp) rfl).2.2;refine lin rfl (aV (news:=(gfl Wd.cells ([(Wd.mk 4 1 ⟨#[]⟩ true)]: List Wd))) (xs:=(gfl Wd.cells xs_0)) T29.und T34 rfl rfl hS hR_0 ha rfl rfl (a6 Wd.len _) (fun hn=>⟨brd35,offrd35,erd35,csrd35,fzrd35,(h1rd35 (fun h_=>hn (by rw [h_];rfl))).1,hS.blkH (h1rd35 (fun h_=>hn (by rw [h_];rfl))).2,fun j u hj=>f4 Wd.len (by decide) h2rd35 hj⟩) (eR Wd.one' _) (by omega) rfl rfl fun v34 en34 a w hR34 hS ha=>?_);rw [← bX] at hR34;obtain⟨A34,c34,rfl⟩:=hR34.slice;have hn_:(xs_0.length+1)=(xs_0++([(Wd.mk 4 1 ⟨#[]⟩ true)]: List Wd)).length:=by have h_:=hR34.1;rw [a6 Wd.len] at h_;omega
      rw [show Value.slice A34 (xs_0.length+1) c34=Value.slice A34 (xs_0++([(Wd.mk 4 1 ⟨#[]⟩ true)]: List Wd)).length c34 from by rw [hn_]] at ha;rw [hn_] at hR34;refine Ls rfl ha fun a ha=>?_;refine wpList_nil (ar (aa (ab (lin rfl (aF (i:=((k: Nat): Int)) (j:=1) ha rfl rfl rfl (by omega) fun a ha=>?_)))));refine Lm rfl ha fun a ha=>?_;refine wpList_nil (aa (?_));exact⟨200 - (k+1),by omega,H33,(k+1),(xs_0++([(Wd.mk 4 1 ⟨#[]⟩ true)]: List Wd)),en34,A34,c34,(hle31.trans (hle33)),rfl,ha.pk rfl,hS,hR34,(by rw [hws,List.replicate_succ']),(by rw [List.length_append,List.length_cons,List.length_nil];omega),(by omega)⟩
     ·refine ai ha rfl (wp_exit (aw (aw (aH (aa (wp_seq (wp_seq ?_)))))));have hvl2_:=eC [t] [];rw [d4,List.length_nil] at hvl2_;refine ab (Lm rfl ha fun a ha=>?_);refine lin rfl (aG T22.und ha rfl rfl fun a ha=>?_);refine lin rfl (cP (i:=(((varRL [t] []).length: Nat): Int)) (j:=0) ha rfl rfl rfl fun a ha=>?_);refine Lm rfl ha fun a ha=>?_;refine ak (t:=99) ha rfl (fun h36 ha=>?_) (fun h36 ha=>?_)
      ·refine ac rfl ha rfl rfl rfl (av ha rfl rfl fun a ha=>?_);refine ac rfl ha rfl rfl rfl (aq func26 rfl rfl (ha.evs rfl) ha rfl (c_Max hS.inv.nil (RdI.of_row hS.inv hR28 1 rfl (by first | omega | simp |(simp;omega))) (by omega)) ?_);rintro e w ⟨rfl,hc⟩;refine⟨_,rfl,fun a ha=>?_⟩;have hS:=hS.call hc;refine ac rfl ha rfl rfl rfl (av ha rfl rfl fun a ha=>?_);refine ac rfl ha rfl rfl rfl (aG T29.und ha rfl rfl fun a ha=>?_);refine ac rfl ha rfl rfl rfl (cZ (i:=(maxI (varRL [t] []))) (j:=((xs_0.length: Nat): Int)) ha rfl rfl rfl fun a ha=>?_);refine lin rfl (an ha rfl rfl rfl fun a ha=>?_);refine wpList_nil (aa (ak (t:=105) ha rfl (fun h37 ha=>?_) (fun h37 ha=>?_)))
       ·refine ap ha rfl (wp_seq (ab (Ls rfl ha fun a ha=>?_)));refine wpList_nil (aa (wp_ret (ah (ret1 rfl ha rfl ?_))));exact⟨_,rfl,hS.drop_all⟩
       ·refine ai ha rfl (wp_skip (aa (wp_seq ?_)));have hvm_:=vars_max (t:=t) (n:=200) (by rintro⟨h1_,h2_⟩;omega);refine ab (lin rfl (am (vs:= [(iV 4),(iV 1),(.string (⟨#[]⟩)),(.bool true)]) T34 rfl ha rfl (hS.blkL 4 rfl) rfl (ag rfl) rfl fun a ha=>?_));refine lin rfl (aC (cs:= #[(iV 0),(iV 0),(.string (⟨#[]⟩)),(.bool false)]) T34 hS ha rfl rfl fun b38 a w hS ha=>?_);refine lin rfl (ao (cs':= #[(iV 4),(iV 1),(.string (⟨#[]⟩)),(.bool true)]) T34 hS (i:=0) rfl ha rfl rfl rfl rfl rfl rfl fun a w hS ha=>?_);refine wpList_nil (aa (wp_seq (wp_seq (ab (Lm rfl ha fun a ha=>?_)))));refine lin rfl (aJ ha rfl rfl fun a ha=>?_);refine wpList_nil (aa (au (t:=108) ha rfl (fun h40 ha=>?_) (fun h40 ha=>?_)))
        ·refine ap ha rfl (wp_seq ?_);obtain rfl: k=200:=by omega
         have hbb_:=bound_build (show HS.Ok g4_ by have h_:=aM (show HS.Ok g3_ by have h_:=aM hO19 (Wd.mk 4 0 ⟨#[]⟩ true) goals [];rw [e3_] at h_;exact h_) (Wd.mk 4 1 ⟨#[]⟩ true) others [];rw [e4_] at h_;exact h_) b0_ b1_ hTm_ hvm_;rw [← hws] at hbb_
         rcases hbb_ with hbe_ |⟨w_,h5_,hbq_,b05_,b15_,hbx_⟩
         ·refine ab (Lm rfl ha fun a ha=>?_);refine lin rfl (am (vs:=(tL t A c)) T46 rfl ha rfl (hS.blkL 7 rfl) rfl (ag rfl) rfl fun a ha=>?_);refine Lm rfl ha fun a ha=>?_;have hk42:=eQ (hS.tail [(some b38,(.cells #[(iV 4),(iV 1),(.string (⟨#[]⟩)),(.bool true)] 34 (0,0))),en_0,en28,en23,en22,(some b20,(.cells #[(iV 4),(iV 1),(.string (⟨#[]⟩)),(.bool true)] 34 (0,0))),(some b15,(.cells #[(iV 4),(iV 0),(.string (⟨#[]⟩)),(.bool true)] 34 (0,0))),(some b1,(.cells (tA t A c) 46 (0,0)))]) hKm23 (show HS.Ok g4_ by have h_:=aM (show HS.Ok g3_ by have h_:=aM hO19 (Wd.mk 4 0 ⟨#[]⟩ true) goals [];rw [e3_] at h_;exact h_) (Wd.mk 4 1 ⟨#[]⟩ true) others [];rw [e4_] at h_;exact h_) hr (RdG.of_ownR [(some b38,(.cells #[(iV 4),(iV 1),(.string (⟨#[]⟩)),(.bool true)] 34 (0,0))),en_0,en28,en23,en22,(some b20,(.cells #[(iV 4),(iV 1),(.string (⟨#[]⟩)),(.bool true)] 34 (0,0))),(some b15,(.cells #[(iV 4),(iV 0),(.string (⟨#[]⟩)),(.bool true)] 34 (0,0))),(some b1,(.cells (tA t A c) 46 (0,0)))] Wd.len (by decide) (i:=1) rfl hS.inv hR_0 (by omega));rw [hbe_] at hk42;refine lin rfl (aq func29 rfl rfl (ha.evs rfl) ha rfl (hk42) ?_);rintro e w ⟨H41,L41,rfl,hK41,hc41⟩;refine⟨_,rfl,fun a ha=>?_⟩;have hS:=hS.frameR [(some b38,(.cells #[(iV 4),(iV 1),(.string (⟨#[]⟩)),(.bool true)] 34 (0,0))),en_0,en28,en23,en22,(some b20,(.cells #[(iV 4),(iV 1),(.string (⟨#[]⟩)),(.bool true)] 34 (0,0))),(some b15,(.cells #[(iV 4),(iV 0),(.string (⟨#[]⟩)),(.bool true)] 34 (0,0))),(some b1,(.cells (tA t A c) 46 (0,0)))] hc41;obtain⟨hs43,hd43⟩: ∃ s_,s_=(HS.build g4_ t xs_0).1:=⟨_,rfl⟩;rw [← hd43] at hK41;have hO43: HS.Ok hs43:=by rw [hd43];exact HS.Ok.build (show HS.Ok g4_ by have h_:=aM (show HS.Ok g3_ by have h_:=aM hO19 (Wd.mk 4 0 ⟨#[]⟩ true) goals [];rw [e3_] at h_;exact h_) (Wd.mk 4 1 ⟨#[]⟩ true) others [];rw [e4_] at h_;exact h_) t xs_0
          refine Lm rfl ha fun a ha=>?_;refine lin rfl (ae (v:=(.agg #[(iV ((((HS.build g4_ t xs_0).2.1)).tag)),(iV ((((HS.build g4_ t xs_0).2.1)).n)),(.string ((((HS.build g4_ t xs_0).2.1)).s)),(.bool ((((HS.build g4_ t xs_0).2.1)).one))])) ha rfl rfl rfl fun a ha=>?_);refine lin rfl (ae (v:=(iV 210)) ha rfl rfl rfl fun a ha=>?_);refine lin rfl (ao (cs':= #[(iV ((((HS.build g4_ t xs_0).2.1)).tag)),(iV ((((HS.build g4_ t xs_0).2.1)).n)),(.string ((((HS.build g4_ t xs_0).2.1)).s)),(.bool ((((HS.build g4_ t xs_0).2.1)).one))]) T34 hS (i:=0) rfl ha rfl rfl rfl rfl rfl rfl fun a w hS ha=>?_);refine Ls rfl ha fun a ha=>?_;refine wpList_nil (aa (wp_seq (ab (Lm rfl ha fun a ha=>?_))));refine lin rfl (aX (i:=210) (j:=0) ha rfl rfl rfl fun a ha=>?_);refine wpList_nil (aa (ap ha rfl (wp_seq (ab (Lm rfl ha fun a ha=>?_)))));refine lin rfl (aP (i:=210) (j:=210) ha rfl rfl rfl fun a ha=>?_);refine Ls rfl ha fun a ha=>?_;refine wpList_nil (aa (wp_ret (ah (ret1 rfl ha rfl ?_))));exact⟨_,rfl,hS.drop_all⟩
         ·refine ab (Lm rfl ha fun a ha=>?_);refine lin rfl (am (vs:=(tL t A c)) T46 rfl ha rfl (hS.blkL 7 rfl) rfl (ag rfl) rfl fun a ha=>?_);refine Lm rfl ha fun a ha=>?_;have hk45:=eQ (hS.tail [(some b38,(.cells #[(iV 4),(iV 1),(.string (⟨#[]⟩)),(.bool true)] 34 (0,0))),en_0,en28,en23,en22,(some b20,(.cells #[(iV 4),(iV 1),(.string (⟨#[]⟩)),(.bool true)] 34 (0,0))),(some b15,(.cells #[(iV 4),(iV 0),(.string (⟨#[]⟩)),(.bool true)] 34 (0,0))),(some b1,(.cells (tA t A c) 46 (0,0)))]) hKm23 (show HS.Ok g4_ by have h_:=aM (show HS.Ok g3_ by have h_:=aM hO19 (Wd.mk 4 0 ⟨#[]⟩ true) goals [];rw [e3_] at h_;exact h_) (Wd.mk 4 1 ⟨#[]⟩ true) others [];rw [e4_] at h_;exact h_) hr (RdG.of_ownR [(some b38,(.cells #[(iV 4),(iV 1),(.string (⟨#[]⟩)),(.bool true)] 34 (0,0))),en_0,en28,en23,en22,(some b20,(.cells #[(iV 4),(iV 1),(.string (⟨#[]⟩)),(.bool true)] 34 (0,0))),(some b15,(.cells #[(iV 4),(iV 0),(.string (⟨#[]⟩)),(.bool true)] 34 (0,0))),(some b1,(.cells (tA t A c) 46 (0,0)))] Wd.len (by decide) (i:=1) rfl hS.inv hR_0 (by omega));rw [hbq_] at hk45;dsimp only at hk45;refine lin rfl (aq func29 rfl rfl (ha.evs rfl) ha rfl (hk45) ?_);rintro e w ⟨H44,L44,rfl,hK44,hc44⟩;refine⟨_,rfl,fun a ha=>?_⟩;have hS:=hS.frameR [(some b38,(.cells #[(iV 4),(iV 1),(.string (⟨#[]⟩)),(.bool true)] 34 (0,0))),en_0,en28,en23,en22,(some b20,(.cells #[(iV 4),(iV 1),(.string (⟨#[]⟩)),(.bool true)] 34 (0,0))),(some b15,(.cells #[(iV 4),(iV 0),(.string (⟨#[]⟩)),(.bool true)] 34 (0,0))),(some b1,(.cells (tA t A c) 46 (0,0)))] hc44;have hO46: HS.Ok h5_:=(show HS.Ok h5_ by have h_:=HS.Ok.build (show HS.Ok g4_ by have h_:=aM (show HS.Ok g3_ by have h_:=aM hO19 (Wd.mk 4 0 ⟨#[]⟩ true) goals [];rw [e3_] at h_;exact h_) (Wd.mk 4 1 ⟨#[]⟩ true) others [];rw [e4_] at h_;exact h_) t xs_0;rw [hbq_] at h_;exact h_);refine Lm rfl ha fun a ha=>?_;refine lin rfl (ae (v:=(.agg #[(iV w_.tag),(iV w_.n),(.string w_.s),(.bool w_.one)])) ha rfl rfl rfl fun a ha=>?_);refine lin rfl (ae (v:=(iV 0)) ha rfl rfl rfl fun a ha=>?_);refine lin rfl (ao (cs':= #[(iV w_.tag),(iV w_.n),(.string w_.s),(.bool w_.one)]) T34 hS (i:=0) rfl ha rfl rfl rfl rfl rfl rfl fun a w hS ha=>?_);refine Ls rfl ha fun a ha=>?_;refine wpList_nil (aa (wp_seq (ab (Lm rfl ha fun a ha=>?_))));refine lin rfl (aX (i:=0) (j:=0) ha rfl rfl rfl fun a ha=>?_);refine wpList_nil (aa (ai ha rfl (wp_skip (aa (wp_seq ?_)))));obtain⟨h6_,T_,l_,e6_,r1_,r2_,r3_,hor_⟩:=db (h:=h5_) b05_ b15_ ⟨l0_,l1_⟩ (x:=w_) hbx_
          rcases hor_ with ⟨ht4_,hl_,hh_⟩ |⟨ht4_,hl_⟩
          ·refine ab (Lm rfl ha fun a ha=>?_);refine lin rfl (am (vs:= [(iV 4),(iV 0),(.string (⟨#[]⟩)),(.bool true)]) T34 rfl ha rfl (hS.blkL 6 rfl) rfl (ag rfl) rfl fun a ha=>?_);refine lin rfl (am (vs:= [(iV w_.tag),(iV w_.n),(.string w_.s),(.bool w_.one)]) T34 rfl ha rfl (hS.blkL 0 rfl) rfl (ag rfl) rfl fun a ha=>?_);have hk48:=dP (hS.tail [(some b38,(.cells #[(iV w_.tag),(iV w_.n),(.string w_.s),(.bool w_.one)] 34 (0,0))),en_0,en28,en23,en22,(some b20,(.cells #[(iV 4),(iV 1),(.string (⟨#[]⟩)),(.bool true)] 34 (0,0))),(some b15,(.cells #[(iV 4),(iV 0),(.string (⟨#[]⟩)),(.bool true)] 34 (0,0))),(some b1,(.cells (tA t A c) 46 (0,0)))]) hK44 hO46 (v:=(Wd.mk 4 0 ⟨#[]⟩ true)) (x:=w_);rw [e6_] at hk48;dsimp only at hk48;rw [hl_] at hk48;refine lin rfl (aq func39 rfl rfl (ha.evs rfl) ha rfl (hk48) ?_);rintro e w ⟨L47,A47,c47,en47,rfl,hR47,hK47,hc47⟩;refine⟨_,rfl,fun a ha=>?_⟩;have hS:=hS.frameR [(some b38,(.cells #[(iV w_.tag),(iV w_.n),(.string w_.s),(.bool w_.one)] 34 (0,0))),en_0,en28,en23,en22,(some b20,(.cells #[(iV 4),(iV 1),(.string (⟨#[]⟩)),(.bool true)] 34 (0,0))),(some b15,(.cells #[(iV 4),(iV 0),(.string (⟨#[]⟩)),(.bool true)] 34 (0,0))),(some b1,(.cells (tA t A c) 46 (0,0)))] hc47;have hO49: HS.Ok h6_:=(show HS.Ok h6_ by have h_:=HS.Ok.bind hO46 (Wd.mk 4 0 ⟨#[]⟩ true) w_;rw [e6_] at h_;exact h_);refine Lm rfl ha fun a ha=>?_;refine lin rfl (ae (v:=(.slice A47 (([]: List Int).length) c47)) ha rfl rfl rfl fun a ha=>?_);refine lin rfl (ae (v:=(iV 0)) ha rfl rfl rfl fun a ha=>?_);refine Ls rfl ha fun a ha=>?_;refine Ls rfl ha fun a ha=>?_;refine wpList_nil (aa (wp_seq (wp_seq (ab (Lm rfl ha fun a ha=>?_)))));refine lin rfl (aX (i:=0) (j:=0) ha rfl rfl rfl fun a ha=>?_);refine wpList_nil (aa (ai ha rfl (wp_skip (aa (wp_seq (ab (Lm rfl ha fun a ha=>?_)))))));refine lin rfl (am (vs:= [(iV 4),(iV 0),(.string (⟨#[]⟩)),(.bool true)]) T34 rfl ha rfl (hS.blkL 6 rfl) rfl (ag rfl) rfl fun a ha=>?_);have hk51:=ce (hS.tail [(some b38,(.cells #[(iV w_.tag),(iV w_.n),(.string w_.s),(.bool w_.one)] 34 (0,0))),en_0,en28,en23,en22,(some b20,(.cells #[(iV 4),(iV 1),(.string (⟨#[]⟩)),(.bool true)] 34 (0,0))),(some b15,(.cells #[(iV 4),(iV 0),(.string (⟨#[]⟩)),(.bool true)] 34 (0,0))),(some b1,(.cells (tA t A c) 46 (0,0))),en47]) hK47 (x:=(Wd.mk 4 0 ⟨#[]⟩ true));rw [r1_] at hk51;dsimp only at hk51;refine lin rfl (aq func20 rfl rfl (ha.evs rfl) ha rfl (hk51) ?_);rintro e w ⟨H50,A50,c50,rfl,hr50,hc50⟩;refine⟨_,rfl,fun a ha=>?_⟩;have hS:=hS.frameR [(some b38,(.cells #[(iV w_.tag),(iV w_.n),(.string w_.s),(.bool w_.one)] 34 (0,0))),en_0,en28,en23,en22,(some b20,(.cells #[(iV 4),(iV 1),(.string (⟨#[]⟩)),(.bool true)] 34 (0,0))),(some b15,(.cells #[(iV 4),(iV 0),(.string (⟨#[]⟩)),(.bool true)] 34 (0,0))),(some b1,(.cells (tA t A c) 46 (0,0))),en47] hc50;refine Lm rfl ha fun a ha=>?_;refine lin rfl (ae (v:=(tv T_ A50 c50)) ha rfl rfl rfl fun a ha=>?_);refine lin rfl (ae (v:=(iV 0)) ha rfl rfl rfl fun a ha=>?_);refine lin rfl (aC (cs:=aZ) T46 hS ha rfl rfl fun b52 a w hS ha=>?_);refine lin rfl (ao (cs':=(tA T_ A50 c50)) T46 hS (i:=0) rfl ha rfl rfl rfl rfl rfl rfl fun a w hS ha=>?_);refine Ls rfl ha fun a ha=>?_;refine wpList_nil (aa (wp_seq (ab (Lm rfl ha fun a ha=>?_))));refine lin rfl (am (vs:= [(iV w_.tag),(iV w_.n),(.string w_.s),(.bool w_.one)]) T34 rfl ha rfl (hS.blkL 1 rfl) rfl (ag rfl) rfl fun a ha=>?_);have hk55:=ce (hS.tail [(some b52,(.cells (tA T_ A50 c50) 46 (0,0))),(some b38,(.cells #[(iV w_.tag),(iV w_.n),(.string w_.s),(.bool w_.one)] 34 (0,0))),en_0,en28,en23,en22,(some b20,(.cells #[(iV 4),(iV 1),(.string (⟨#[]⟩)),(.bool true)] 34 (0,0))),(some b15,(.cells #[(iV 4),(iV 0),(.string (⟨#[]⟩)),(.bool true)] 34 (0,0))),(some b1,(.cells (tA t A c) 46 (0,0))),en47]) hK47 (x:=w_);rw [r2_] at hk55;dsimp only at hk55;refine lin rfl (aq func20 rfl rfl (ha.evs rfl) ha rfl (hk55) ?_);rintro e w ⟨H54,A54,c54,rfl,hr54,hc54⟩;refine⟨_,rfl,fun a ha=>?_⟩;have hS:=hS.frameR [(some b52,(.cells (tA T_ A50 c50) 46 (0,0))),(some b38,(.cells #[(iV w_.tag),(iV w_.n),(.string w_.s),(.bool w_.one)] 34 (0,0))),en_0,en28,en23,en22,(some b20,(.cells #[(iV 4),(iV 1),(.string (⟨#[]⟩)),(.bool true)] 34 (0,0))),(some b15,(.cells #[(iV 4),(iV 0),(.string (⟨#[]⟩)),(.bool true)] 34 (0,0))),(some b1,(.cells (tA t A c) 46 (0,0))),en47] hc54;have hr50:=hr50.mono hc54.le;refine Lm rfl ha fun a ha=>?_;refine lin rfl (ae (v:=(tv T_ A54 c54)) ha rfl rfl rfl fun a ha=>?_);refine lin rfl (ae (v:=(iV 0)) ha rfl rfl rfl fun a ha=>?_);refine lin rfl (aC (cs:=aZ) T46 hS ha rfl rfl fun b56 a w hS ha=>?_);refine lin rfl (ao (cs':=(tA T_ A54 c54)) T46 hS (i:=0) rfl ha rfl rfl rfl rfl rfl rfl fun a w hS ha=>?_);refine Ls rfl ha fun a ha=>?_;refine wpList_nil (aa (wp_seq (wp_seq (ab (Lm rfl ha fun a ha=>?_)))));refine lin rfl (aX (i:=0) (j:=0) ha rfl rfl rfl fun a ha=>?_);refine Lm rfl ha fun a ha=>?_;refine ac rfl ha rfl rfl rfl (av ha rfl rfl fun a ha=>?_);refine ac rfl ha rfl rfl rfl (aX (i:=0) (j:=0) ha rfl rfl rfl fun a ha=>?_);refine lin rfl (aj ha rfl rfl rfl fun a ha=>?_);refine Lm rfl ha fun a ha=>?_;refine ac rfl ha rfl rfl rfl (am (vs:=(tL T_ A50 c50)) T46 rfl ha rfl (hS.blkL 1 rfl) rfl (ag rfl) rfl fun a ha=>?_);refine ac rfl ha rfl rfl rfl (am (vs:=(tL T_ A54 c54)) T46 rfl ha rfl (hS.blkL 0 rfl) rfl (ag rfl) rfl fun a ha=>?_);have hk58:=bP (ta:=T_) (tb:=T_) hS.inv.nil hr50 hr54;rw [show eqT T_ T_=true from (ck _ _).2 rfl] at hk58;refine ac rfl ha rfl rfl rfl (aq func22 rfl rfl (ha.evs rfl) ha rfl (hk58) ?_);rintro e w ⟨rfl,hc⟩;refine⟨_,rfl,fun a ha=>?_⟩;have hS:=hS.call hc;refine ac rfl ha rfl rfl rfl (aJ ha rfl rfl fun a ha=>?_);refine lin rfl (aj ha rfl rfl rfl fun a ha=>?_);refine wpList_nil (aa (ai ha rfl (wp_skip (aa (wp_seq (wp_seq (ab (Lm rfl ha fun a ha=>?_))))))));refine lin rfl (am (vs:= [(iV w_.tag),(iV w_.n),(.string w_.s),(.bool w_.one)]) T34 rfl ha rfl (hS.blkL 2 rfl) rfl (ag rfl) rfl fun a ha=>?_);have hk60:=da (hS.tail [(some b56,(.cells (tA T_ A54 c54) 46 (0,0))),(some b52,(.cells (tA T_ A50 c50) 46 (0,0))),(some b38,(.cells #[(iV w_.tag),(iV w_.n),(.string w_.s),(.bool w_.one)] 34 (0,0))),en_0,en28,en23,en22,(some b20,(.cells #[(iV 4),(iV 1),(.string (⟨#[]⟩)),(.bool true)] 34 (0,0))),(some b15,(.cells #[(iV 4),(iV 0),(.string (⟨#[]⟩)),(.bool true)] 34 (0,0))),(some b1,(.cells (tA t A c) 46 (0,0))),en47]) hK47 (x:=w_);rw [r3_] at hk60;dsimp only at hk60;refine lin rfl (aq func40 rfl rfl (ha.evs rfl) ha rfl (hk60) ?_);rintro e w ⟨rfl,hc59⟩;refine⟨_,rfl,fun a ha=>?_⟩;have hS:=hS.frameR [(some b56,(.cells (tA T_ A54 c54) 46 (0,0))),(some b52,(.cells (tA T_ A50 c50) 46 (0,0))),(some b38,(.cells #[(iV w_.tag),(iV w_.n),(.string w_.s),(.bool w_.one)] 34 (0,0))),en_0,en28,en23,en22,(some b20,(.cells #[(iV 4),(iV 1),(.string (⟨#[]⟩)),(.bool true)] 34 (0,0))),(some b15,(.cells #[(iV 4),(iV 0),(.string (⟨#[]⟩)),(.bool true)] 34 (0,0))),(some b1,(.cells (tA t A c) 46 (0,0))),en47] hc59;refine Lm rfl ha fun a ha=>?_;refine lin rfl (ae (v:=(.agg #[(iV w_.tag),(iV w_.n),(.string w_.s),(.bool w_.one)])) ha rfl rfl rfl fun a ha=>?_);refine lin rfl (ae (v:=(iV 0)) ha rfl rfl rfl fun a ha=>?_);refine lin rfl (aC (cs:= #[(iV 0),(iV 0),(.string (⟨#[]⟩)),(.bool false)]) T34 hS ha rfl rfl fun b61 a w hS ha=>?_);refine lin rfl (ao (cs':= #[(iV w_.tag),(iV w_.n),(.string w_.s),(.bool w_.one)]) T34 hS (i:=0) rfl ha rfl rfl rfl rfl rfl rfl fun a w hS ha=>?_);refine Ls rfl ha fun a ha=>?_;refine wpList_nil (aa (wp_seq (ab (Lm rfl ha fun a ha=>?_))));refine lin rfl (aP (i:=0) (j:=0) ha rfl rfl rfl fun a ha=>?_);refine Lm rfl ha fun a ha=>?_;refine ac rfl ha rfl rfl rfl (ad (f:=0) (o2:=0) T34 T3 rfl rfl rfl rfl ha rfl rfl fun a ha=>?_);refine ac rfl ha rfl rfl rfl (af (v:=(iV w_.tag)) T3 rfl ha rfl (hS.blkL 0 rfl) rfl rfl fun a ha=>?_);refine ac rfl ha rfl rfl rfl (aP (i:=w_.tag) (j:=4) ha rfl rfl rfl fun a ha=>?_);rw [decide_eq_true (by exact ht4_)] at ha;refine lin rfl (an ha rfl rfl rfl fun a ha=>?_);refine wpList_nil (aa (ap ha rfl (wp_seq (wp_seq (ab (Lm rfl ha fun a ha=>?_))))));refine lin rfl (aG T22.und ha rfl rfl fun a ha=>?_);refine Lm rfl ha fun a ha=>?_;refine wpList_nil (aa (wp_block (aO (fun nn_ a w=> ∃(H63: PHeap),∃(k2: Nat),∃(xs_1: List Int),∃(en_1: Ent),∃(A_1: Option Addr),∃(c_1: Nat),Le H54 H63∧nn_=hk0_.length - k2∧Has [] a 202 [(9,(pB p9)),(12,(pB b20)),(15,(.slice A_1 xs_1.length c_1)),(20,(.slice A47 (([]: List Int).length) c47)),(166,(.slice A22 hk0_.length c22)),(167,(iV ((hk0_.length: Nat): Int))),(168,(iV ((k2: Nat): Int)))]∧Step w0 H [] w H63 ((some b61,(.cells #[(iV w_.tag),(iV w_.n),(.string w_.s),(.bool w_.one)] 34 (0,0)))::(some b56,(.cells (tA T_ A54 c54) 46 (0,0)))::(some b52,(.cells (tA T_ A50 c50) 46 (0,0)))::(some b38,(.cells #[(iV w_.tag),(iV w_.n),(.string w_.s),(.bool w_.one)] 34 (0,0)))::en_0::en28::en_1::en22::(some b20,(.cells #[(iV 4),(iV 1),(.string (⟨#[]⟩)),(.bool true)] 34 (0,0)))::(some b15,(.cells #[(iV 4),(iV 0),(.string (⟨#[]⟩)),(.bool true)] 34 (0,0)))::(some b1,(.cells (tA t A c) 46 (0,0)))::en47::L47)∧(Row (.slice A_1 xs_1.length c_1) en_1 3 1 xs_1.length (ints xs_1))∧(addG xs_1 (hk0_.drop k2)=addG hk1_ hk0_)∧(xs_1.length≤20+k2)∧(k2≤hk0_.length)) _ ⟨H54,0,hk1_,en23,A23,c23,Le.refl _,rfl,ha.pk rfl,hS,(by simpa using hR23),rfl,(by omega),(by omega)⟩ ?_)));intro n63 a w hh;obtain⟨H63,k2,xs_1,en_1,A_1,c_1,hle63,hn63,ha,hS,hR_1,hag,hal,hk2⟩:=hh;refine wp_seq (ab (lin rfl (aQ (i:=((k2: Nat): Int)) (j:=((hk0_.length: Nat): Int)) ha rfl rfl rfl fun a ha=>?_)));refine wpList_nil (aa (wp_seq (ak (t:=169) ha rfl (fun h64 ha=>?_) (fun h64 ha=>?_))))
           ·refine ap ha rfl (wp_skip (aa (wp_seq (wp_block (wp_seq (ab ?_))))));obtain⟨b65,cap65,cur65,hv65,he65,hc65, -⟩:=hR22.at_ (j:=k2) (by omega);have hA65:(A22: Option Addr)=some ⟨b65,0,none⟩:=by injection hv65
            obtain⟨x65,hx65⟩: ∃ x,hk0_[k2]? =some x:=⟨_,List.getElem?_eq_getElem (by first | omega |(simp;omega))⟩;have hc65:=hc65 0 (iV x65) (by omega) (bw hx65);refine lin rfl (aA (b:=b65) (o:=0) (j:=k2) T22.und T3 hA65 ha rfl rfl (by omega) (by omega) rfl fun a ha=>?_);refine lin rfl (af (v:=(iV x65)) T3 rfl ha rfl (hS.blkL 7 (b:=b65) (o:=.cells cur65 3 (0,0)) (by rw [← he65];rfl)) hc65 rfl fun a ha=>?_);refine Ls rfl ha fun a ha=>?_;refine wpList_nil (aa (wp_seq (ab (Lm rfl ha fun a ha=>?_))));refine Lm rfl ha fun a ha=>?_;refine lin rfl (aq func41 rfl rfl (ha.evs rfl) ha rfl (bM hS.inv.nil (RdI.of_row hS.inv hR_1 6 rfl (by first | omega | simp |(simp;omega)))) ?_);rintro e w ⟨rfl,hc⟩;refine⟨_,rfl,fun a ha=>?_⟩;have hS:=hS.call hc;refine lin rfl (aJ ha rfl rfl fun a ha=>?_);refine wpList_nil (aa (au (t:=175) ha rfl (fun h66 ha=>?_) (fun h66 ha=>?_)))
            ·refine ap ha rfl (ab (Lm rfl ha fun a ha=>?_));refine Lm rfl ha fun a ha=>?_;refine lin rfl (bg (vs:= [(0,(iV x65))]) (cells:= [(iV x65)]) T22.und T3 hS ha (ha.evp rfl) rfl rfl rfl rfl fun b67 a w hS ha=>?_);obtain⟨H67,hS,hle67,hb67⟩:=hS.give;have hr67: RowI H67 (some ⟨b67,0,none⟩) 1 [x65]:=RowI.of_lit [x65] hb67 (by simp) rfl;have hS:=hS.front 6 rfl;refine lin rfl (aV (news:=(ints [x65])) (xs:=(ints xs_1)) T22.und T3 rfl rfl hS hR_1 ha rfl rfl rfl (fun _=>⟨b67,0,_,_,_,rfl,hS.blkH hb67,ag rfl⟩) (bE rfl) (by omega) rfl rfl fun v68 en68 a w hR68 hS ha=>?_);rw [← List.map_append] at hR68;obtain⟨A68,c68,rfl⟩:=hR68.slice;have hn_:(xs_1.length+1)=(xs_1++ [x65]).length:=by have h_:=hR68.1;simp only [List.length_map] at h_;omega
             rw [show Value.slice A68 (xs_1.length+1) c68=Value.slice A68 (xs_1++ [x65]).length c68 from by rw [hn_]] at ha;rw [hn_] at hR68;refine Ls rfl ha fun a ha=>?_;refine wpList_nil (ar (aa (ab (lin rfl (aF (i:=((k2: Nat): Int)) (j:=1) ha rfl rfl rfl (by omega) fun a ha=>?_)))));refine Lm rfl ha fun a ha=>?_;refine wpList_nil (aa (?_));have hS:=hS.front 11 rfl;have hS:=hS.front 11 rfl;have hS:=hS.front 11 rfl;have hS:=hS.front 11 rfl;have hS:=hS.front 11 rfl;have hS:=hS.front 5 rfl;have hS:=hS.front 11 rfl;have hS:=hS.front 11 rfl;have hS:=hS.front 11 rfl;have hS:=hS.front 11 rfl;have hS:=hS.front 11 rfl;have hS:=hS.front 11 rfl;exact⟨hk0_.length - (k2+1),by omega,H67,(k2+1),(xs_1++ [x65]),en68,A68,c68,(hle63.trans (hle67)),rfl,ha.pk rfl,hS,hR68,(by
               rw [← hag,br hx65]
               congr 1
               have hq_:=h66;rw [if_neg (fun e_=>by rw [e_] at hq_;cases hq_)]),(by first | omega |(simp;omega)),(by omega)⟩
            ·refine ai ha rfl (wp_skip (ar (aa (ab (lin rfl (aF (i:=((k2: Nat): Int)) (j:=1) ha rfl rfl rfl (by omega) fun a ha=>?_))))));refine Lm rfl ha fun a ha=>?_;refine wpList_nil (aa (?_));exact⟨hk0_.length - (k2+1),by omega,H63,(k2+1),xs_1,en_1,A_1,c_1,(hle63),rfl,ha.pk rfl,hS,hR_1,(by
               rw [← hag,br hx65]
               congr 1
               have hq_:=h66;rw [if_pos (by cases h_: xs_1.contains x65 with
                | true=>rfl
                | false=>rw [h_] at hq_;cases hq_)]),(by first | omega |(simp;omega)),(by omega)⟩
           ·refine ai ha rfl (wp_exit (aw (aw (aH (aa (wp_seq ?_))))));have hal2_:=cY hk0_ hk1_;refine ab (Lm rfl ha fun a ha=>?_);refine lin rfl (am (vs:= [(iV 4),(iV 1),(.string (⟨#[]⟩)),(.bool true)]) T34 rfl ha rfl (hS.blkL 8 rfl) rfl (ag rfl) rfl fun a ha=>?_);have hk70:=eH (hS.tail [(some b61,(.cells #[(iV w_.tag),(iV w_.n),(.string w_.s),(.bool w_.one)] 34 (0,0))),(some b56,(.cells (tA T_ A54 c54) 46 (0,0))),(some b52,(.cells (tA T_ A50 c50) 46 (0,0))),(some b38,(.cells #[(iV w_.tag),(iV w_.n),(.string w_.s),(.bool w_.one)] 34 (0,0))),en_0,en28,en_1,en22,(some b20,(.cells #[(iV 4),(iV 1),(.string (⟨#[]⟩)),(.bool true)] 34 (0,0))),(some b15,(.cells #[(iV 4),(iV 0),(.string (⟨#[]⟩)),(.bool true)] 34 (0,0))),(some b1,(.cells (tA t A c) 46 (0,0))),en47]) hK47 (v:=(Wd.mk 4 1 ⟨#[]⟩ true));rw [hh_] at hk70;dsimp only at hk70;refine lin rfl (aq func42 rfl rfl (ha.evs rfl) ha rfl (hk70) ?_);rintro e w ⟨A69,c69,en69,rfl,hR69,hc69⟩;refine⟨_,rfl,fun a ha=>?_⟩;have hS:=Step.perm (hS.frameR [(some b61,(.cells #[(iV w_.tag),(iV w_.n),(.string w_.s),(.bool w_.one)] 34 (0,0))),(some b56,(.cells (tA T_ A54 c54) 46 (0,0))),(some b52,(.cells (tA T_ A50 c50) 46 (0,0))),(some b38,(.cells #[(iV w_.tag),(iV w_.n),(.string w_.s),(.bool w_.one)] 34 (0,0))),en_0,en28,en_1,en22,(some b20,(.cells #[(iV 4),(iV 1),(.string (⟨#[]⟩)),(.bool true)] 34 (0,0))),(some b15,(.cells #[(iV 4),(iV 0),(.string (⟨#[]⟩)),(.bool true)] 34 (0,0))),(some b1,(.cells (tA t A c) 46 (0,0))),en47] hc69) List.perm_middle;refine Lm rfl ha fun a ha=>?_;refine lin rfl (ae (v:=(.slice A69 ((addG hk1_ hk0_).length) c69)) ha rfl rfl rfl fun a ha=>?_);refine lin rfl (ae (v:=(iV 0)) ha rfl rfl rfl fun a ha=>?_);refine Ls rfl ha fun a ha=>?_;refine Ls rfl ha fun a ha=>?_;refine wpList_nil (aa (wp_seq (ab (Lm rfl ha fun a ha=>?_))));refine lin rfl (aG T22.und ha rfl rfl fun a ha=>?_);refine lin rfl (aP (i:=((([]: List Int).length: Nat): Int)) (j:=0) ha rfl rfl rfl fun a ha=>?_);rw [decide_eq_true (by rfl)] at ha;refine Lm rfl ha fun a ha=>?_;refine ac rfl ha rfl rfl rfl (av ha rfl rfl fun a ha=>?_);refine ac rfl ha rfl rfl rfl (aP (i:=0) (j:=0) ha rfl rfl rfl fun a ha=>?_);refine lin rfl (an ha rfl rfl rfl fun a ha=>?_);refine Lm rfl ha fun a ha=>?_;refine ac rfl ha rfl rfl rfl (av ha rfl rfl fun a ha=>?_);refine ac rfl ha rfl rfl rfl (av ha rfl rfl fun a ha=>?_);have hk71:=cI hS.inv.nil (RdI.of_row hS.inv hR69 0 rfl (by first | omega | simp |(simp;omega))) (RdI.of_row hS.inv hR_1 7 rfl (by first | omega | simp |(simp;omega)));rw [show decide ((addG hk1_ hk0_)=xs_1)=true from decide_eq_true (by rw [← hag,dL (by omega)])] at hk71;refine ac rfl ha rfl rfl rfl (aq func43 rfl rfl (ha.evs rfl) ha rfl (hk71) ?_);rintro e w ⟨rfl,hc⟩;refine⟨_,rfl,fun a ha=>?_⟩;have hS:=hS.call hc;refine lin rfl (an ha rfl rfl rfl fun a ha=>?_);refine Ls rfl ha fun a ha=>?_;refine wpList_nil (aa (wp_ret (ah (ret1 rfl ha rfl ?_))));exact⟨_,rfl,hS.drop_all⟩
          ·refine ab (Lm rfl ha fun a ha=>?_);refine lin rfl (am (vs:= [(iV 4),(iV 0),(.string (⟨#[]⟩)),(.bool true)]) T34 rfl ha rfl (hS.blkL 6 rfl) rfl (ag rfl) rfl fun a ha=>?_);refine lin rfl (am (vs:= [(iV w_.tag),(iV w_.n),(.string w_.s),(.bool w_.one)]) T34 rfl ha rfl (hS.blkL 0 rfl) rfl (ag rfl) rfl fun a ha=>?_);have hk73:=dP (hS.tail [(some b38,(.cells #[(iV w_.tag),(iV w_.n),(.string w_.s),(.bool w_.one)] 34 (0,0))),en_0,en28,en23,en22,(some b20,(.cells #[(iV 4),(iV 1),(.string (⟨#[]⟩)),(.bool true)] 34 (0,0))),(some b15,(.cells #[(iV 4),(iV 0),(.string (⟨#[]⟩)),(.bool true)] 34 (0,0))),(some b1,(.cells (tA t A c) 46 (0,0)))]) hK44 hO46 (v:=(Wd.mk 4 0 ⟨#[]⟩ true)) (x:=w_);rw [e6_] at hk73;dsimp only at hk73;rw [hl_] at hk73;refine lin rfl (aq func39 rfl rfl (ha.evs rfl) ha rfl (hk73) ?_);rintro e w ⟨L72,A72,c72,en72,rfl,hR72,hK72,hc72⟩;refine⟨_,rfl,fun a ha=>?_⟩;have hS:=hS.frameR [(some b38,(.cells #[(iV w_.tag),(iV w_.n),(.string w_.s),(.bool w_.one)] 34 (0,0))),en_0,en28,en23,en22,(some b20,(.cells #[(iV 4),(iV 1),(.string (⟨#[]⟩)),(.bool true)] 34 (0,0))),(some b15,(.cells #[(iV 4),(iV 0),(.string (⟨#[]⟩)),(.bool true)] 34 (0,0))),(some b1,(.cells (tA t A c) 46 (0,0)))] hc72;have hO74: HS.Ok h6_:=(show HS.Ok h6_ by have h_:=HS.Ok.bind hO46 (Wd.mk 4 0 ⟨#[]⟩ true) w_;rw [e6_] at h_;exact h_);refine Lm rfl ha fun a ha=>?_;refine lin rfl (ae (v:=(.slice A72 hk0_.length c72)) ha rfl rfl rfl fun a ha=>?_);refine lin rfl (ae (v:=(iV 0)) ha rfl rfl rfl fun a ha=>?_);refine Ls rfl ha fun a ha=>?_;refine Ls rfl ha fun a ha=>?_;refine wpList_nil (aa (wp_seq (wp_seq (ab (Lm rfl ha fun a ha=>?_)))));refine lin rfl (aX (i:=0) (j:=0) ha rfl rfl rfl fun a ha=>?_);refine wpList_nil (aa (ai ha rfl (wp_skip (aa (wp_seq (ab (Lm rfl ha fun a ha=>?_)))))));refine lin rfl (am (vs:= [(iV 4),(iV 0),(.string (⟨#[]⟩)),(.bool true)]) T34 rfl ha rfl (hS.blkL 6 rfl) rfl (ag rfl) rfl fun a ha=>?_);have hk76:=ce (hS.tail [(some b38,(.cells #[(iV w_.tag),(iV w_.n),(.string w_.s),(.bool w_.one)] 34 (0,0))),en_0,en28,en23,en22,(some b20,(.cells #[(iV 4),(iV 1),(.string (⟨#[]⟩)),(.bool true)] 34 (0,0))),(some b15,(.cells #[(iV 4),(iV 0),(.string (⟨#[]⟩)),(.bool true)] 34 (0,0))),(some b1,(.cells (tA t A c) 46 (0,0))),en72]) hK72 (x:=(Wd.mk 4 0 ⟨#[]⟩ true));rw [r1_] at hk76;dsimp only at hk76;refine lin rfl (aq func20 rfl rfl (ha.evs rfl) ha rfl (hk76) ?_);rintro e w ⟨H75,A75,c75,rfl,hr75,hc75⟩;refine⟨_,rfl,fun a ha=>?_⟩;have hS:=hS.frameR [(some b38,(.cells #[(iV w_.tag),(iV w_.n),(.string w_.s),(.bool w_.one)] 34 (0,0))),en_0,en28,en23,en22,(some b20,(.cells #[(iV 4),(iV 1),(.string (⟨#[]⟩)),(.bool true)] 34 (0,0))),(some b15,(.cells #[(iV 4),(iV 0),(.string (⟨#[]⟩)),(.bool true)] 34 (0,0))),(some b1,(.cells (tA t A c) 46 (0,0))),en72] hc75;refine Lm rfl ha fun a ha=>?_;refine lin rfl (ae (v:=(tv T_ A75 c75)) ha rfl rfl rfl fun a ha=>?_);refine lin rfl (ae (v:=(iV 0)) ha rfl rfl rfl fun a ha=>?_);refine lin rfl (aC (cs:=aZ) T46 hS ha rfl rfl fun b77 a w hS ha=>?_);refine lin rfl (ao (cs':=(tA T_ A75 c75)) T46 hS (i:=0) rfl ha rfl rfl rfl rfl rfl rfl fun a w hS ha=>?_);refine Ls rfl ha fun a ha=>?_;refine wpList_nil (aa (wp_seq (ab (Lm rfl ha fun a ha=>?_))));refine lin rfl (am (vs:= [(iV w_.tag),(iV w_.n),(.string w_.s),(.bool w_.one)]) T34 rfl ha rfl (hS.blkL 1 rfl) rfl (ag rfl) rfl fun a ha=>?_);have hk80:=ce (hS.tail [(some b77,(.cells (tA T_ A75 c75) 46 (0,0))),(some b38,(.cells #[(iV w_.tag),(iV w_.n),(.string w_.s),(.bool w_.one)] 34 (0,0))),en_0,en28,en23,en22,(some b20,(.cells #[(iV 4),(iV 1),(.string (⟨#[]⟩)),(.bool true)] 34 (0,0))),(some b15,(.cells #[(iV 4),(iV 0),(.string (⟨#[]⟩)),(.bool true)] 34 (0,0))),(some b1,(.cells (tA t A c) 46 (0,0))),en72]) hK72 (x:=w_);rw [r2_] at hk80;dsimp only at hk80;refine lin rfl (aq func20 rfl rfl (ha.evs rfl) ha rfl (hk80) ?_);rintro e w ⟨H79,A79,c79,rfl,hr79,hc79⟩;refine⟨_,rfl,fun a ha=>?_⟩;have hS:=hS.frameR [(some b77,(.cells (tA T_ A75 c75) 46 (0,0))),(some b38,(.cells #[(iV w_.tag),(iV w_.n),(.string w_.s),(.bool w_.one)] 34 (0,0))),en_0,en28,en23,en22,(some b20,(.cells #[(iV 4),(iV 1),(.string (⟨#[]⟩)),(.bool true)] 34 (0,0))),(some b15,(.cells #[(iV 4),(iV 0),(.string (⟨#[]⟩)),(.bool true)] 34 (0,0))),(some b1,(.cells (tA t A c) 46 (0,0))),en72] hc79;have hr75:=hr75.mono hc79.le;refine Lm rfl ha fun a ha=>?_;refine lin rfl (ae (v:=(tv T_ A79 c79)) ha rfl rfl rfl fun a ha=>?_);refine lin rfl (ae (v:=(iV 0)) ha rfl rfl rfl fun a ha=>?_);refine lin rfl (aC (cs:=aZ) T46 hS ha rfl rfl fun b81 a w hS ha=>?_);refine lin rfl (ao (cs':=(tA T_ A79 c79)) T46 hS (i:=0) rfl ha rfl rfl rfl rfl rfl rfl fun a w hS ha=>?_);refine Ls rfl ha fun a ha=>?_;refine wpList_nil (aa (wp_seq (wp_seq (ab (Lm rfl ha fun a ha=>?_)))));refine lin rfl (aX (i:=0) (j:=0) ha rfl rfl rfl fun a ha=>?_);refine Lm rfl ha fun a ha=>?_;refine ac rfl ha rfl rfl rfl (av ha rfl rfl fun a ha=>?_);refine ac rfl ha rfl rfl rfl (aX (i:=0) (j:=0) ha rfl rfl rfl fun a ha=>?_);refine lin rfl (aj ha rfl rfl rfl fun a ha=>?_);refine Lm rfl ha fun a ha=>?_;refine ac rfl ha rfl rfl rfl (am (vs:=(tL T_ A75 c75)) T46 rfl ha rfl (hS.blkL 1 rfl) rfl (ag rfl) rfl fun a ha=>?_);refine ac rfl ha rfl rfl rfl (am (vs:=(tL T_ A79 c79)) T46 rfl ha rfl (hS.blkL 0 rfl) rfl (ag rfl) rfl fun a ha=>?_);have hk83:=bP (ta:=T_) (tb:=T_) hS.inv.nil hr75 hr79;rw [show eqT T_ T_=true from (ck _ _).2 rfl] at hk83;refine ac rfl ha rfl rfl rfl (aq func22 rfl rfl (ha.evs rfl) ha rfl (hk83) ?_);rintro e w ⟨rfl,hc⟩;refine⟨_,rfl,fun a ha=>?_⟩;have hS:=hS.call hc;refine ac rfl ha rfl rfl rfl (aJ ha rfl rfl fun a ha=>?_);refine lin rfl (aj ha rfl rfl rfl fun a ha=>?_);refine wpList_nil (aa (ai ha rfl (wp_skip (aa (wp_seq (wp_seq (ab (Lm rfl ha fun a ha=>?_))))))));refine lin rfl (am (vs:= [(iV w_.tag),(iV w_.n),(.string w_.s),(.bool w_.one)]) T34 rfl ha rfl (hS.blkL 2 rfl) rfl (ag rfl) rfl fun a ha=>?_);have hk85:=da (hS.tail [(some b81,(.cells (tA T_ A79 c79) 46 (0,0))),(some b77,(.cells (tA T_ A75 c75) 46 (0,0))),(some b38,(.cells #[(iV w_.tag),(iV w_.n),(.string w_.s),(.bool w_.one)] 34 (0,0))),en_0,en28,en23,en22,(some b20,(.cells #[(iV 4),(iV 1),(.string (⟨#[]⟩)),(.bool true)] 34 (0,0))),(some b15,(.cells #[(iV 4),(iV 0),(.string (⟨#[]⟩)),(.bool true)] 34 (0,0))),(some b1,(.cells (tA t A c) 46 (0,0))),en72]) hK72 (x:=w_);rw [r3_] at hk85;dsimp only at hk85;refine lin rfl (aq func40 rfl rfl (ha.evs rfl) ha rfl (hk85) ?_);rintro e w ⟨rfl,hc84⟩;refine⟨_,rfl,fun a ha=>?_⟩;have hS:=hS.frameR [(some b81,(.cells (tA T_ A79 c79) 46 (0,0))),(some b77,(.cells (tA T_ A75 c75) 46 (0,0))),(some b38,(.cells #[(iV w_.tag),(iV w_.n),(.string w_.s),(.bool w_.one)] 34 (0,0))),en_0,en28,en23,en22,(some b20,(.cells #[(iV 4),(iV 1),(.string (⟨#[]⟩)),(.bool true)] 34 (0,0))),(some b15,(.cells #[(iV 4),(iV 0),(.string (⟨#[]⟩)),(.bool true)] 34 (0,0))),(some b1,(.cells (tA t A c) 46 (0,0))),en72] hc84;refine Lm rfl ha fun a ha=>?_;refine lin rfl (ae (v:=(.agg #[(iV w_.tag),(iV w_.n),(.string w_.s),(.bool w_.one)])) ha rfl rfl rfl fun a ha=>?_);refine lin rfl (ae (v:=(iV 0)) ha rfl rfl rfl fun a ha=>?_);refine lin rfl (aC (cs:= #[(iV 0),(iV 0),(.string (⟨#[]⟩)),(.bool false)]) T34 hS ha rfl rfl fun b86 a w hS ha=>?_);refine lin rfl (ao (cs':= #[(iV w_.tag),(iV w_.n),(.string w_.s),(.bool w_.one)]) T34 hS (i:=0) rfl ha rfl rfl rfl rfl rfl rfl fun a w hS ha=>?_);refine Ls rfl ha fun a ha=>?_;refine wpList_nil (aa (wp_seq (ab (Lm rfl ha fun a ha=>?_))));refine lin rfl (aP (i:=0) (j:=0) ha rfl rfl rfl fun a ha=>?_);refine Lm rfl ha fun a ha=>?_;refine ac rfl ha rfl rfl rfl (ad (f:=0) (o2:=0) T34 T3 rfl rfl rfl rfl ha rfl rfl fun a ha=>?_);refine ac rfl ha rfl rfl rfl (af (v:=(iV w_.tag)) T3 rfl ha rfl (hS.blkL 0 rfl) rfl rfl fun a ha=>?_);refine ac rfl ha rfl rfl rfl (aP (i:=w_.tag) (j:=4) ha rfl rfl rfl fun a ha=>?_);rw [decide_eq_false (by exact ht4_)] at ha;refine lin rfl (an ha rfl rfl rfl fun a ha=>?_);refine wpList_nil (aa (ai ha rfl (wp_skip (aa (wp_seq (ab (Lm rfl ha fun a ha=>?_)))))));refine Lm rfl ha fun a ha=>?_;have hk88:=cI hS.inv.nil (RdI.of_row hS.inv hR72 11 rfl (by first | omega | simp |(simp;omega))) (RdI.of_row hS.inv hR22 7 rfl (by first | omega | simp |(simp;omega)));rw [show decide (hk0_=hk0_)=true from decide_eq_true rfl] at hk88;refine lin rfl (aq func43 rfl rfl (ha.evs rfl) ha rfl (hk88) ?_);rintro e w ⟨rfl,hc⟩;refine⟨_,rfl,fun a ha=>?_⟩;have hS:=hS.call hc;refine Ls rfl ha fun a ha=>?_;refine wpList_nil (aa (wp_ret (ret1 rfl ha rfl ?_)));exact⟨_,rfl,hS.drop_all⟩
        ·refine ai ha rfl (wp_skip (aa (wp_seq ?_)));obtain⟨h6_,T_,l_,e6_,r1_,r2_,r3_,hor_⟩:=db (h:=g4_) b0_ b1_ ⟨l0_,l1_⟩ (x:=(Wd.mk 4 1 ⟨#[]⟩ true)) (.inl ⟨true,rfl⟩)
         rcases hor_ with ⟨ht4_,hl_,hh_⟩ |⟨ht4_,hl_⟩
         ·refine ab (Lm rfl ha fun a ha=>?_);refine lin rfl (am (vs:= [(iV 4),(iV 0),(.string (⟨#[]⟩)),(.bool true)]) T34 rfl ha rfl (hS.blkL 6 rfl) rfl (ag rfl) rfl fun a ha=>?_);refine lin rfl (am (vs:= [(iV 4),(iV 1),(.string (⟨#[]⟩)),(.bool true)]) T34 rfl ha rfl (hS.blkL 0 rfl) rfl (ag rfl) rfl fun a ha=>?_);have hk90:=dP (hS.tail [(some b38,(.cells #[(iV 4),(iV 1),(.string (⟨#[]⟩)),(.bool true)] 34 (0,0))),en_0,en28,en23,en22,(some b20,(.cells #[(iV 4),(iV 1),(.string (⟨#[]⟩)),(.bool true)] 34 (0,0))),(some b15,(.cells #[(iV 4),(iV 0),(.string (⟨#[]⟩)),(.bool true)] 34 (0,0))),(some b1,(.cells (tA t A c) 46 (0,0)))]) hKm23 (show HS.Ok g4_ by have h_:=aM (show HS.Ok g3_ by have h_:=aM hO19 (Wd.mk 4 0 ⟨#[]⟩ true) goals [];rw [e3_] at h_;exact h_) (Wd.mk 4 1 ⟨#[]⟩ true) others [];rw [e4_] at h_;exact h_) (v:=(Wd.mk 4 0 ⟨#[]⟩ true)) (x:=(Wd.mk 4 1 ⟨#[]⟩ true));rw [e6_] at hk90;dsimp only at hk90;rw [hl_] at hk90;refine lin rfl (aq func39 rfl rfl (ha.evs rfl) ha rfl (hk90) ?_);rintro e w ⟨L89,A89,c89,en89,rfl,hR89,hK89,hc89⟩;refine⟨_,rfl,fun a ha=>?_⟩;have hS:=hS.frameR [(some b38,(.cells #[(iV 4),(iV 1),(.string (⟨#[]⟩)),(.bool true)] 34 (0,0))),en_0,en28,en23,en22,(some b20,(.cells #[(iV 4),(iV 1),(.string (⟨#[]⟩)),(.bool true)] 34 (0,0))),(some b15,(.cells #[(iV 4),(iV 0),(.string (⟨#[]⟩)),(.bool true)] 34 (0,0))),(some b1,(.cells (tA t A c) 46 (0,0)))] hc89;have hO91: HS.Ok h6_:=(show HS.Ok h6_ by have h_:=HS.Ok.bind (show HS.Ok g4_ by have h_:=aM (show HS.Ok g3_ by have h_:=aM hO19 (Wd.mk 4 0 ⟨#[]⟩ true) goals [];rw [e3_] at h_;exact h_) (Wd.mk 4 1 ⟨#[]⟩ true) others [];rw [e4_] at h_;exact h_) (Wd.mk 4 0 ⟨#[]⟩ true) (Wd.mk 4 1 ⟨#[]⟩ true);rw [e6_] at h_;exact h_);refine Lm rfl ha fun a ha=>?_;refine lin rfl (ae (v:=(.slice A89 (([]: List Int).length) c89)) ha rfl rfl rfl fun a ha=>?_);refine lin rfl (ae (v:=(iV 0)) ha rfl rfl rfl fun a ha=>?_);refine Ls rfl ha fun a ha=>?_;refine Ls rfl ha fun a ha=>?_;refine wpList_nil (aa (wp_seq (wp_seq (ab (Lm rfl ha fun a ha=>?_)))));refine lin rfl (aX (i:=0) (j:=0) ha rfl rfl rfl fun a ha=>?_);refine wpList_nil (aa (ai ha rfl (wp_skip (aa (wp_seq (ab (Lm rfl ha fun a ha=>?_)))))));refine lin rfl (am (vs:= [(iV 4),(iV 0),(.string (⟨#[]⟩)),(.bool true)]) T34 rfl ha rfl (hS.blkL 6 rfl) rfl (ag rfl) rfl fun a ha=>?_);have hk93:=ce (hS.tail [(some b38,(.cells #[(iV 4),(iV 1),(.string (⟨#[]⟩)),(.bool true)] 34 (0,0))),en_0,en28,en23,en22,(some b20,(.cells #[(iV 4),(iV 1),(.string (⟨#[]⟩)),(.bool true)] 34 (0,0))),(some b15,(.cells #[(iV 4),(iV 0),(.string (⟨#[]⟩)),(.bool true)] 34 (0,0))),(some b1,(.cells (tA t A c) 46 (0,0))),en89]) hK89 (x:=(Wd.mk 4 0 ⟨#[]⟩ true));rw [r1_] at hk93;dsimp only at hk93;refine lin rfl (aq func20 rfl rfl (ha.evs rfl) ha rfl (hk93) ?_);rintro e w ⟨H92,A92,c92,rfl,hr92,hc92⟩;refine⟨_,rfl,fun a ha=>?_⟩;have hS:=hS.frameR [(some b38,(.cells #[(iV 4),(iV 1),(.string (⟨#[]⟩)),(.bool true)] 34 (0,0))),en_0,en28,en23,en22,(some b20,(.cells #[(iV 4),(iV 1),(.string (⟨#[]⟩)),(.bool true)] 34 (0,0))),(some b15,(.cells #[(iV 4),(iV 0),(.string (⟨#[]⟩)),(.bool true)] 34 (0,0))),(some b1,(.cells (tA t A c) 46 (0,0))),en89] hc92;refine Lm rfl ha fun a ha=>?_;refine lin rfl (ae (v:=(tv T_ A92 c92)) ha rfl rfl rfl fun a ha=>?_);refine lin rfl (ae (v:=(iV 0)) ha rfl rfl rfl fun a ha=>?_);refine lin rfl (aC (cs:=aZ) T46 hS ha rfl rfl fun b94 a w hS ha=>?_);refine lin rfl (ao (cs':=(tA T_ A92 c92)) T46 hS (i:=0) rfl ha rfl rfl rfl rfl rfl rfl fun a w hS ha=>?_);refine Ls rfl ha fun a ha=>?_;refine wpList_nil (aa (wp_seq (ab (Lm rfl ha fun a ha=>?_))));refine lin rfl (am (vs:= [(iV 4),(iV 1),(.string (⟨#[]⟩)),(.bool true)]) T34 rfl ha rfl (hS.blkL 1 rfl) rfl (ag rfl) rfl fun a ha=>?_);have hk97:=ce (hS.tail [(some b94,(.cells (tA T_ A92 c92) 46 (0,0))),(some b38,(.cells #[(iV 4),(iV 1),(.string (⟨#[]⟩)),(.bool true)] 34 (0,0))),en_0,en28,en23,en22,(some b20,(.cells #[(iV 4),(iV 1),(.string (⟨#[]⟩)),(.bool true)] 34 (0,0))),(some b15,(.cells #[(iV 4),(iV 0),(.string (⟨#[]⟩)),(.bool true)] 34 (0,0))),(some b1,(.cells (tA t A c) 46 (0,0))),en89]) hK89 (x:=(Wd.mk 4 1 ⟨#[]⟩ true));rw [r2_] at hk97;dsimp only at hk97;refine lin rfl (aq func20 rfl rfl (ha.evs rfl) ha rfl (hk97) ?_);rintro e w ⟨H96,A96,c96,rfl,hr96,hc96⟩;refine⟨_,rfl,fun a ha=>?_⟩;have hS:=hS.frameR [(some b94,(.cells (tA T_ A92 c92) 46 (0,0))),(some b38,(.cells #[(iV 4),(iV 1),(.string (⟨#[]⟩)),(.bool true)] 34 (0,0))),en_0,en28,en23,en22,(some b20,(.cells #[(iV 4),(iV 1),(.string (⟨#[]⟩)),(.bool true)] 34 (0,0))),(some b15,(.cells #[(iV 4),(iV 0),(.string (⟨#[]⟩)),(.bool true)] 34 (0,0))),(some b1,(.cells (tA t A c) 46 (0,0))),en89] hc96;have hr92:=hr92.mono hc96.le;refine Lm rfl ha fun a ha=>?_;refine lin rfl (ae (v:=(tv T_ A96 c96)) ha rfl rfl rfl fun a ha=>?_);refine lin rfl (ae (v:=(iV 0)) ha rfl rfl rfl fun a ha=>?_);refine lin rfl (aC (cs:=aZ) T46 hS ha rfl rfl fun b98 a w hS ha=>?_);refine lin rfl (ao (cs':=(tA T_ A96 c96)) T46 hS (i:=0) rfl ha rfl rfl rfl rfl rfl rfl fun a w hS ha=>?_);refine Ls rfl ha fun a ha=>?_;refine wpList_nil (aa (wp_seq (wp_seq (ab (Lm rfl ha fun a ha=>?_)))));refine lin rfl (aX (i:=0) (j:=0) ha rfl rfl rfl fun a ha=>?_);refine Lm rfl ha fun a ha=>?_;refine ac rfl ha rfl rfl rfl (av ha rfl rfl fun a ha=>?_);refine ac rfl ha rfl rfl rfl (aX (i:=0) (j:=0) ha rfl rfl rfl fun a ha=>?_);refine lin rfl (aj ha rfl rfl rfl fun a ha=>?_);refine Lm rfl ha fun a ha=>?_;refine ac rfl ha rfl rfl rfl (am (vs:=(tL T_ A92 c92)) T46 rfl ha rfl (hS.blkL 1 rfl) rfl (ag rfl) rfl fun a ha=>?_);refine ac rfl ha rfl rfl rfl (am (vs:=(tL T_ A96 c96)) T46 rfl ha rfl (hS.blkL 0 rfl) rfl (ag rfl) rfl fun a ha=>?_);have hk100:=bP (ta:=T_) (tb:=T_) hS.inv.nil hr92 hr96;rw [show eqT T_ T_=true from (ck _ _).2 rfl] at hk100;refine ac rfl ha rfl rfl rfl (aq func22 rfl rfl (ha.evs rfl) ha rfl (hk100) ?_);rintro e w ⟨rfl,hc⟩;refine⟨_,rfl,fun a ha=>?_⟩;have hS:=hS.call hc;refine ac rfl ha rfl rfl rfl (aJ ha rfl rfl fun a ha=>?_);refine lin rfl (aj ha rfl rfl rfl fun a ha=>?_);refine wpList_nil (aa (ai ha rfl (wp_skip (aa (wp_seq (wp_seq (ab (Lm rfl ha fun a ha=>?_))))))));refine lin rfl (am (vs:= [(iV 4),(iV 1),(.string (⟨#[]⟩)),(.bool true)]) T34 rfl ha rfl (hS.blkL 2 rfl) rfl (ag rfl) rfl fun a ha=>?_);have hk102:=da (hS.tail [(some b98,(.cells (tA T_ A96 c96) 46 (0,0))),(some b94,(.cells (tA T_ A92 c92) 46 (0,0))),(some b38,(.cells #[(iV 4),(iV 1),(.string (⟨#[]⟩)),(.bool true)] 34 (0,0))),en_0,en28,en23,en22,(some b20,(.cells #[(iV 4),(iV 1),(.string (⟨#[]⟩)),(.bool true)] 34 (0,0))),(some b15,(.cells #[(iV 4),(iV 0),(.string (⟨#[]⟩)),(.bool true)] 34 (0,0))),(some b1,(.cells (tA t A c) 46 (0,0))),en89]) hK89 (x:=(Wd.mk 4 1 ⟨#[]⟩ true));rw [r3_] at hk102;dsimp only at hk102;refine lin rfl (aq func40 rfl rfl (ha.evs rfl) ha rfl (hk102) ?_);rintro e w ⟨rfl,hc101⟩;refine⟨_,rfl,fun a ha=>?_⟩;have hS:=hS.frameR [(some b98,(.cells (tA T_ A96 c96) 46 (0,0))),(some b94,(.cells (tA T_ A92 c92) 46 (0,0))),(some b38,(.cells #[(iV 4),(iV 1),(.string (⟨#[]⟩)),(.bool true)] 34 (0,0))),en_0,en28,en23,en22,(some b20,(.cells #[(iV 4),(iV 1),(.string (⟨#[]⟩)),(.bool true)] 34 (0,0))),(some b15,(.cells #[(iV 4),(iV 0),(.string (⟨#[]⟩)),(.bool true)] 34 (0,0))),(some b1,(.cells (tA t A c) 46 (0,0))),en89] hc101;refine Lm rfl ha fun a ha=>?_;refine lin rfl (ae (v:=(.agg #[(iV 4),(iV 1),(.string (⟨#[]⟩)),(.bool true)])) ha rfl rfl rfl fun a ha=>?_);refine lin rfl (ae (v:=(iV 0)) ha rfl rfl rfl fun a ha=>?_);refine lin rfl (aC (cs:= #[(iV 0),(iV 0),(.string (⟨#[]⟩)),(.bool false)]) T34 hS ha rfl rfl fun b103 a w hS ha=>?_);refine lin rfl (ao (cs':= #[(iV 4),(iV 1),(.string (⟨#[]⟩)),(.bool true)]) T34 hS (i:=0) rfl ha rfl rfl rfl rfl rfl rfl fun a w hS ha=>?_);refine Ls rfl ha fun a ha=>?_;refine wpList_nil (aa (wp_seq (ab (Lm rfl ha fun a ha=>?_))));refine lin rfl (aP (i:=0) (j:=0) ha rfl rfl rfl fun a ha=>?_);refine Lm rfl ha fun a ha=>?_;refine ac rfl ha rfl rfl rfl (ad (f:=0) (o2:=0) T34 T3 rfl rfl rfl rfl ha rfl rfl fun a ha=>?_);refine ac rfl ha rfl rfl rfl (af (v:=(iV 4)) T3 rfl ha rfl (hS.blkL 0 rfl) rfl rfl fun a ha=>?_);refine ac rfl ha rfl rfl rfl (aP (i:=4) (j:=4) ha rfl rfl rfl fun a ha=>?_);refine lin rfl (an ha rfl rfl rfl fun a ha=>?_);refine wpList_nil (aa (ap ha rfl (wp_seq (wp_seq (ab (Lm rfl ha fun a ha=>?_))))));refine lin rfl (aG T22.und ha rfl rfl fun a ha=>?_);refine Lm rfl ha fun a ha=>?_;refine wpList_nil (aa (wp_block (aO (fun nn_ a w=> ∃(H105: PHeap),∃(k2: Nat),∃(xs_1: List Int),∃(en_1: Ent),∃(A_1: Option Addr),∃(c_1: Nat),Le H96 H105∧nn_=hk0_.length - k2∧Has [] a 202 [(9,(pB p9)),(12,(pB b20)),(15,(.slice A_1 xs_1.length c_1)),(20,(.slice A89 (([]: List Int).length) c89)),(166,(.slice A22 hk0_.length c22)),(167,(iV ((hk0_.length: Nat): Int))),(168,(iV ((k2: Nat): Int)))]∧Step w0 H [] w H105 ((some b103,(.cells #[(iV 4),(iV 1),(.string (⟨#[]⟩)),(.bool true)] 34 (0,0)))::(some b98,(.cells (tA T_ A96 c96) 46 (0,0)))::(some b94,(.cells (tA T_ A92 c92) 46 (0,0)))::(some b38,(.cells #[(iV 4),(iV 1),(.string (⟨#[]⟩)),(.bool true)] 34 (0,0)))::en_0::en28::en_1::en22::(some b20,(.cells #[(iV 4),(iV 1),(.string (⟨#[]⟩)),(.bool true)] 34 (0,0)))::(some b15,(.cells #[(iV 4),(iV 0),(.string (⟨#[]⟩)),(.bool true)] 34 (0,0)))::(some b1,(.cells (tA t A c) 46 (0,0)))::en89::L89)∧(Row (.slice A_1 xs_1.length c_1) en_1 3 1 xs_1.length (ints xs_1))∧(addG xs_1 (hk0_.drop k2)=addG hk1_ hk0_)∧(xs_1.length≤20+k2)∧(k2≤hk0_.length)) _ ⟨H96,0,hk1_,en23,A23,c23,Le.refl _,rfl,ha.pk rfl,hS,(by simpa using hR23),rfl,(by omega),(by omega)⟩ ?_)));intro n105 a w hh;obtain⟨H105,k2,xs_1,en_1,A_1,c_1,hle105,hn105,ha,hS,hR_1,hag,hal,hk2⟩:=hh;refine wp_seq (ab (lin rfl (aQ (i:=((k2: Nat): Int)) (j:=((hk0_.length: Nat): Int)) ha rfl rfl rfl fun a ha=>?_)));refine wpList_nil (aa (wp_seq (ak (t:=169) ha rfl (fun h106 ha=>?_) (fun h106 ha=>?_))))
          ·refine ap ha rfl (wp_skip (aa (wp_seq (wp_block (wp_seq (ab ?_))))));obtain⟨b107,cap107,cur107,hv107,he107,hc107, -⟩:=hR22.at_ (j:=k2) (by omega);have hA107:(A22: Option Addr)=some ⟨b107,0,none⟩:=by injection hv107
           obtain⟨x107,hx107⟩: ∃ x,hk0_[k2]? =some x:=⟨_,List.getElem?_eq_getElem (by first | omega |(simp;omega))⟩;have hc107:=hc107 0 (iV x107) (by omega) (bw hx107);refine lin rfl (aA (b:=b107) (o:=0) (j:=k2) T22.und T3 hA107 ha rfl rfl (by omega) (by omega) rfl fun a ha=>?_);refine lin rfl (af (v:=(iV x107)) T3 rfl ha rfl (hS.blkL 7 (b:=b107) (o:=.cells cur107 3 (0,0)) (by rw [← he107];rfl)) hc107 rfl fun a ha=>?_);refine Ls rfl ha fun a ha=>?_;refine wpList_nil (aa (wp_seq (ab (Lm rfl ha fun a ha=>?_))));refine Lm rfl ha fun a ha=>?_;refine lin rfl (aq func41 rfl rfl (ha.evs rfl) ha rfl (bM hS.inv.nil (RdI.of_row hS.inv hR_1 6 rfl (by first | omega | simp |(simp;omega)))) ?_);rintro e w ⟨rfl,hc⟩;refine⟨_,rfl,fun a ha=>?_⟩;have hS:=hS.call hc;refine lin rfl (aJ ha rfl rfl fun a ha=>?_);refine wpList_nil (aa (au (t:=175) ha rfl (fun h108 ha=>?_) (fun h108 ha=>?_)))
           ·refine ap ha rfl (ab (Lm rfl ha fun a ha=>?_));refine Lm rfl ha fun a ha=>?_;refine lin rfl (bg (vs:= [(0,(iV x107))]) (cells:= [(iV x107)]) T22.und T3 hS ha (ha.evp rfl) rfl rfl rfl rfl fun b109 a w hS ha=>?_);obtain⟨H109,hS,hle109,hb109⟩:=hS.give;have hr109: RowI H109 (some ⟨b109,0,none⟩) 1 [x107]:=RowI.of_lit [x107] hb109 (by simp) rfl;have hS:=hS.front 6 rfl;refine lin rfl (aV (news:=(ints [x107])) (xs:=(ints xs_1)) T22.und T3 rfl rfl hS hR_1 ha rfl rfl rfl (fun _=>⟨b109,0,_,_,_,rfl,hS.blkH hb109,ag rfl⟩) (bE rfl) (by omega) rfl rfl fun v110 en110 a w hR110 hS ha=>?_);rw [← List.map_append] at hR110;obtain⟨A110,c110,rfl⟩:=hR110.slice;have hn_:(xs_1.length+1)=(xs_1++ [x107]).length:=by have h_:=hR110.1;simp only [List.length_map] at h_;omega
            rw [show Value.slice A110 (xs_1.length+1) c110=Value.slice A110 (xs_1++ [x107]).length c110 from by rw [hn_]] at ha;rw [hn_] at hR110;refine Ls rfl ha fun a ha=>?_;refine wpList_nil (ar (aa (ab (lin rfl (aF (i:=((k2: Nat): Int)) (j:=1) ha rfl rfl rfl (by omega) fun a ha=>?_)))));refine Lm rfl ha fun a ha=>?_;refine wpList_nil (aa (?_));have hS:=hS.front 11 rfl;have hS:=hS.front 11 rfl;have hS:=hS.front 11 rfl;have hS:=hS.front 11 rfl;have hS:=hS.front 11 rfl;have hS:=hS.front 5 rfl;have hS:=hS.front 11 rfl;have hS:=hS.front 11 rfl;have hS:=hS.front 11 rfl;have hS:=hS.front 11 rfl;have hS:=hS.front 11 rfl;have hS:=hS.front 11 rfl;exact⟨hk0_.length - (k2+1),by omega,H109,(k2+1),(xs_1++ [x107]),en110,A110,c110,(hle105.trans (hle109)),rfl,ha.pk rfl,hS,hR110,(by
              rw [← hag,br hx107]
              congr 1
              have hq_:=h108;rw [if_neg (fun e_=>by rw [e_] at hq_;cases hq_)]),(by first | omega |(simp;omega)),(by omega)⟩
           ·refine ai ha rfl (wp_skip (ar (aa (ab (lin rfl (aF (i:=((k2: Nat): Int)) (j:=1) ha rfl rfl rfl (by omega) fun a ha=>?_))))));refine Lm rfl ha fun a ha=>?_;refine wpList_nil (aa (?_));exact⟨hk0_.length - (k2+1),by omega,H105,(k2+1),xs_1,en_1,A_1,c_1,(hle105),rfl,ha.pk rfl,hS,hR_1,(by
              rw [← hag,br hx107]
              congr 1
              have hq_:=h108;rw [if_pos (by cases h_: xs_1.contains x107 with
               | true=>rfl
               | false=>rw [h_] at hq_;cases hq_)]),(by first | omega |(simp;omega)),(by omega)⟩
          ·refine ai ha rfl (wp_exit (aw (aw (aH (aa (wp_seq ?_))))));have hal2_:=cY hk0_ hk1_;refine ab (Lm rfl ha fun a ha=>?_);refine lin rfl (am (vs:= [(iV 4),(iV 1),(.string (⟨#[]⟩)),(.bool true)]) T34 rfl ha rfl (hS.blkL 8 rfl) rfl (ag rfl) rfl fun a ha=>?_);have hk112:=eH (hS.tail [(some b103,(.cells #[(iV 4),(iV 1),(.string (⟨#[]⟩)),(.bool true)] 34 (0,0))),(some b98,(.cells (tA T_ A96 c96) 46 (0,0))),(some b94,(.cells (tA T_ A92 c92) 46 (0,0))),(some b38,(.cells #[(iV 4),(iV 1),(.string (⟨#[]⟩)),(.bool true)] 34 (0,0))),en_0,en28,en_1,en22,(some b20,(.cells #[(iV 4),(iV 1),(.string (⟨#[]⟩)),(.bool true)] 34 (0,0))),(some b15,(.cells #[(iV 4),(iV 0),(.string (⟨#[]⟩)),(.bool true)] 34 (0,0))),(some b1,(.cells (tA t A c) 46 (0,0))),en89]) hK89 (v:=(Wd.mk 4 1 ⟨#[]⟩ true));rw [hh_] at hk112;dsimp only at hk112;refine lin rfl (aq func42 rfl rfl (ha.evs rfl) ha rfl (hk112) ?_);rintro e w ⟨A111,c111,en111,rfl,hR111,hc111⟩;refine⟨_,rfl,fun a ha=>?_⟩;have hS:=Step.perm (hS.frameR [(some b103,(.cells #[(iV 4),(iV 1),(.string (⟨#[]⟩)),(.bool true)] 34 (0,0))),(some b98,(.cells (tA T_ A96 c96) 46 (0,0))),(some b94,(.cells (tA T_ A92 c92) 46 (0,0))),(some b38,(.cells #[(iV 4),(iV 1),(.string (⟨#[]⟩)),(.bool true)] 34 (0,0))),en_0,en28,en_1,en22,(some b20,(.cells #[(iV 4),(iV 1),(.string (⟨#[]⟩)),(.bool true)] 34 (0,0))),(some b15,(.cells #[(iV 4),(iV 0),(.string (⟨#[]⟩)),(.bool true)] 34 (0,0))),(some b1,(.cells (tA t A c) 46 (0,0))),en89] hc111) List.perm_middle;refine Lm rfl ha fun a ha=>?_;refine lin rfl (ae (v:=(.slice A111 ((addG hk1_ hk0_).length) c111)) ha rfl rfl rfl fun a ha=>?_);refine lin rfl (ae (v:=(iV 0)) ha rfl rfl rfl fun a ha=>?_);refine Ls rfl ha fun a ha=>?_;refine Ls rfl ha fun a ha=>?_;refine wpList_nil (aa (wp_seq (ab (Lm rfl ha fun a ha=>?_))));refine lin rfl (aG T22.und ha rfl rfl fun a ha=>?_);refine lin rfl (aP (i:=((([]: List Int).length: Nat): Int)) (j:=0) ha rfl rfl rfl fun a ha=>?_);rw [decide_eq_true (by rfl)] at ha;refine Lm rfl ha fun a ha=>?_;refine ac rfl ha rfl rfl rfl (av ha rfl rfl fun a ha=>?_);refine ac rfl ha rfl rfl rfl (aP (i:=0) (j:=0) ha rfl rfl rfl fun a ha=>?_);refine lin rfl (an ha rfl rfl rfl fun a ha=>?_);refine Lm rfl ha fun a ha=>?_;refine ac rfl ha rfl rfl rfl (av ha rfl rfl fun a ha=>?_);refine ac rfl ha rfl rfl rfl (av ha rfl rfl fun a ha=>?_);have hk113:=cI hS.inv.nil (RdI.of_row hS.inv hR111 0 rfl (by first | omega | simp |(simp;omega))) (RdI.of_row hS.inv hR_1 7 rfl (by first | omega | simp |(simp;omega)));rw [show decide ((addG hk1_ hk0_)=xs_1)=true from decide_eq_true (by rw [← hag,dL (by omega)])] at hk113;refine ac rfl ha rfl rfl rfl (aq func43 rfl rfl (ha.evs rfl) ha rfl (hk113) ?_);rintro e w ⟨rfl,hc⟩;refine⟨_,rfl,fun a ha=>?_⟩;have hS:=hS.call hc;refine lin rfl (an ha rfl rfl rfl fun a ha=>?_);refine Ls rfl ha fun a ha=>?_;refine wpList_nil (aa (wp_ret (ah (ret1 rfl ha rfl ?_))));exact⟨_,rfl,hS.drop_all⟩
         ·exact absurd rfl ht4_
      ·refine Lf rfl ha rfl rfl fun a ha=>?_;refine Lf rfl ha rfl rfl fun a ha=>?_;refine Lf rfl ha rfl rfl fun a ha=>?_;refine Lf rfl ha rfl rfl fun a ha=>?_;refine Lf rfl ha rfl rfl fun a ha=>?_;refine lin rfl (aj ha rfl rfl rfl fun a ha=>?_);refine wpList_nil (aa (ai ha rfl (wp_skip (aa (wp_seq ?_)))));have hvm_:=vars_max (t:=t) (n:=200) (by rintro⟨h1_,h2_⟩;omega);refine ab (lin rfl (am (vs:= [(iV 4),(iV 1),(.string (⟨#[]⟩)),(.bool true)]) T34 rfl ha rfl (hS.blkL 4 rfl) rfl (ag rfl) rfl fun a ha=>?_));refine lin rfl (aC (cs:= #[(iV 0),(iV 0),(.string (⟨#[]⟩)),(.bool false)]) T34 hS ha rfl rfl fun b114 a w hS ha=>?_);refine lin rfl (ao (cs':= #[(iV 4),(iV 1),(.string (⟨#[]⟩)),(.bool true)]) T34 hS (i:=0) rfl ha rfl rfl rfl rfl rfl rfl fun a w hS ha=>?_);refine wpList_nil (aa (wp_seq (wp_seq (ab (Lm rfl ha fun a ha=>?_)))));refine lin rfl (aJ ha rfl rfl fun a ha=>?_);refine wpList_nil (aa (au (t:=108) ha rfl (fun h116 ha=>?_) (fun h116 ha=>?_)))
       ·refine ap ha rfl (wp_seq ?_);obtain rfl: k=200:=by omega
        have hbb_:=bound_build (show HS.Ok g4_ by have h_:=aM (show HS.Ok g3_ by have h_:=aM hO19 (Wd.mk 4 0 ⟨#[]⟩ true) goals [];rw [e3_] at h_;exact h_) (Wd.mk 4 1 ⟨#[]⟩ true) others [];rw [e4_] at h_;exact h_) b0_ b1_ hTm_ hvm_;rw [← hws] at hbb_
        rcases hbb_ with hbe_ |⟨w_,h5_,hbq_,b05_,b15_,hbx_⟩
        ·refine ab (Lm rfl ha fun a ha=>?_);refine lin rfl (am (vs:=(tL t A c)) T46 rfl ha rfl (hS.blkL 7 rfl) rfl (ag rfl) rfl fun a ha=>?_);refine Lm rfl ha fun a ha=>?_;have hk118:=eQ (hS.tail [(some b114,(.cells #[(iV 4),(iV 1),(.string (⟨#[]⟩)),(.bool true)] 34 (0,0))),en_0,en28,en23,en22,(some b20,(.cells #[(iV 4),(iV 1),(.string (⟨#[]⟩)),(.bool true)] 34 (0,0))),(some b15,(.cells #[(iV 4),(iV 0),(.string (⟨#[]⟩)),(.bool true)] 34 (0,0))),(some b1,(.cells (tA t A c) 46 (0,0)))]) hKm23 (show HS.Ok g4_ by have h_:=aM (show HS.Ok g3_ by have h_:=aM hO19 (Wd.mk 4 0 ⟨#[]⟩ true) goals [];rw [e3_] at h_;exact h_) (Wd.mk 4 1 ⟨#[]⟩ true) others [];rw [e4_] at h_;exact h_) hr (RdG.of_ownR [(some b114,(.cells #[(iV 4),(iV 1),(.string (⟨#[]⟩)),(.bool true)] 34 (0,0))),en_0,en28,en23,en22,(some b20,(.cells #[(iV 4),(iV 1),(.string (⟨#[]⟩)),(.bool true)] 34 (0,0))),(some b15,(.cells #[(iV 4),(iV 0),(.string (⟨#[]⟩)),(.bool true)] 34 (0,0))),(some b1,(.cells (tA t A c) 46 (0,0)))] Wd.len (by decide) (i:=1) rfl hS.inv hR_0 (by omega));rw [hbe_] at hk118;refine lin rfl (aq func29 rfl rfl (ha.evs rfl) ha rfl (hk118) ?_);rintro e w ⟨H117,L117,rfl,hK117,hc117⟩;refine⟨_,rfl,fun a ha=>?_⟩;have hS:=hS.frameR [(some b114,(.cells #[(iV 4),(iV 1),(.string (⟨#[]⟩)),(.bool true)] 34 (0,0))),en_0,en28,en23,en22,(some b20,(.cells #[(iV 4),(iV 1),(.string (⟨#[]⟩)),(.bool true)] 34 (0,0))),(some b15,(.cells #[(iV 4),(iV 0),(.string (⟨#[]⟩)),(.bool true)] 34 (0,0))),(some b1,(.cells (tA t A c) 46 (0,0)))] hc117;obtain⟨hs119,hd119⟩: ∃ s_,s_=(HS.build g4_ t xs_0).1:=⟨_,rfl⟩;rw [← hd119] at hK117;have hO119: HS.Ok hs119:=by rw [hd119];exact HS.Ok.build (show HS.Ok g4_ by have h_:=aM (show HS.Ok g3_ by have h_:=aM hO19 (Wd.mk 4 0 ⟨#[]⟩ true) goals [];rw [e3_] at h_;exact h_) (Wd.mk 4 1 ⟨#[]⟩ true) others [];rw [e4_] at h_;exact h_) t xs_0
         refine Lm rfl ha fun a ha=>?_;refine lin rfl (ae (v:=(.agg #[(iV ((((HS.build g4_ t xs_0).2.1)).tag)),(iV ((((HS.build g4_ t xs_0).2.1)).n)),(.string ((((HS.build g4_ t xs_0).2.1)).s)),(.bool ((((HS.build g4_ t xs_0).2.1)).one))])) ha rfl rfl rfl fun a ha=>?_);refine lin rfl (ae (v:=(iV 210)) ha rfl rfl rfl fun a ha=>?_);refine lin rfl (ao (cs':= #[(iV ((((HS.build g4_ t xs_0).2.1)).tag)),(iV ((((HS.build g4_ t xs_0).2.1)).n)),(.string ((((HS.build g4_ t xs_0).2.1)).s)),(.bool ((((HS.build g4_ t xs_0).2.1)).one))]) T34 hS (i:=0) rfl ha rfl rfl rfl rfl rfl rfl fun a w hS ha=>?_);refine Ls rfl ha fun a ha=>?_;refine wpList_nil (aa (wp_seq (ab (Lm rfl ha fun a ha=>?_))));refine lin rfl (aX (i:=210) (j:=0) ha rfl rfl rfl fun a ha=>?_);refine wpList_nil (aa (ap ha rfl (wp_seq (ab (Lm rfl ha fun a ha=>?_)))));refine lin rfl (aP (i:=210) (j:=210) ha rfl rfl rfl fun a ha=>?_);refine Ls rfl ha fun a ha=>?_;refine wpList_nil (aa (wp_ret (ah (ret1 rfl ha rfl ?_))));exact⟨_,rfl,hS.drop_all⟩
        ·refine ab (Lm rfl ha fun a ha=>?_);refine lin rfl (am (vs:=(tL t A c)) T46 rfl ha rfl (hS.blkL 7 rfl) rfl (ag rfl) rfl fun a ha=>?_);refine Lm rfl ha fun a ha=>?_;have hk121:=eQ (hS.tail [(some b114,(.cells #[(iV 4),(iV 1),(.string (⟨#[]⟩)),(.bool true)] 34 (0,0))),en_0,en28,en23,en22,(some b20,(.cells #[(iV 4),(iV 1),(.string (⟨#[]⟩)),(.bool true)] 34 (0,0))),(some b15,(.cells #[(iV 4),(iV 0),(.string (⟨#[]⟩)),(.bool true)] 34 (0,0))),(some b1,(.cells (tA t A c) 46 (0,0)))]) hKm23 (show HS.Ok g4_ by have h_:=aM (show HS.Ok g3_ by have h_:=aM hO19 (Wd.mk 4 0 ⟨#[]⟩ true) goals [];rw [e3_] at h_;exact h_) (Wd.mk 4 1 ⟨#[]⟩ true) others [];rw [e4_] at h_;exact h_) hr (RdG.of_ownR [(some b114,(.cells #[(iV 4),(iV 1),(.string (⟨#[]⟩)),(.bool true)] 34 (0,0))),en_0,en28,en23,en22,(some b20,(.cells #[(iV 4),(iV 1),(.string (⟨#[]⟩)),(.bool true)] 34 (0,0))),(some b15,(.cells #[(iV 4),(iV 0),(.string (⟨#[]⟩)),(.bool true)] 34 (0,0))),(some b1,(.cells (tA t A c) 46 (0,0)))] Wd.len (by decide) (i:=1) rfl hS.inv hR_0 (by omega));rw [hbq_] at hk121;dsimp only at hk121;refine lin rfl (aq func29 rfl rfl (ha.evs rfl) ha rfl (hk121) ?_);rintro e w ⟨H120,L120,rfl,hK120,hc120⟩;refine⟨_,rfl,fun a ha=>?_⟩;have hS:=hS.frameR [(some b114,(.cells #[(iV 4),(iV 1),(.string (⟨#[]⟩)),(.bool true)] 34 (0,0))),en_0,en28,en23,en22,(some b20,(.cells #[(iV 4),(iV 1),(.string (⟨#[]⟩)),(.bool true)] 34 (0,0))),(some b15,(.cells #[(iV 4),(iV 0),(.string (⟨#[]⟩)),(.bool true)] 34 (0,0))),(some b1,(.cells (tA t A c) 46 (0,0)))] hc120;have hO122: HS.Ok h5_:=(show HS.Ok h5_ by have h_:=HS.Ok.build (show HS.Ok g4_ by have h_:=aM (show HS.Ok g3_ by have h_:=aM hO19 (Wd.mk 4 0 ⟨#[]⟩ true) goals [];rw [e3_] at h_;exact h_) (Wd.mk 4 1 ⟨#[]⟩ true) others [];rw [e4_] at h_;exact h_) t xs_0;rw [hbq_] at h_;exact h_);refine Lm rfl ha fun a ha=>?_;refine lin rfl (ae (v:=(.agg #[(iV w_.tag),(iV w_.n),(.string w_.s),(.bool w_.one)])) ha rfl rfl rfl fun a ha=>?_);refine lin rfl (ae (v:=(iV 0)) ha rfl rfl rfl fun a ha=>?_);refine lin rfl (ao (cs':= #[(iV w_.tag),(iV w_.n),(.string w_.s),(.bool w_.one)]) T34 hS (i:=0) rfl ha rfl rfl rfl rfl rfl rfl fun a w hS ha=>?_);refine Ls rfl ha fun a ha=>?_;refine wpList_nil (aa (wp_seq (ab (Lm rfl ha fun a ha=>?_))));refine lin rfl (aX (i:=0) (j:=0) ha rfl rfl rfl fun a ha=>?_);refine wpList_nil (aa (ai ha rfl (wp_skip (aa (wp_seq ?_)))));obtain⟨h6_,T_,l_,e6_,r1_,r2_,r3_,hor_⟩:=db (h:=h5_) b05_ b15_ ⟨l0_,l1_⟩ (x:=w_) hbx_
         rcases hor_ with ⟨ht4_,hl_,hh_⟩ |⟨ht4_,hl_⟩
         ·refine ab (Lm rfl ha fun a ha=>?_);refine lin rfl (am (vs:= [(iV 4),(iV 0),(.string (⟨#[]⟩)),(.bool true)]) T34 rfl ha rfl (hS.blkL 6 rfl) rfl (ag rfl) rfl fun a ha=>?_);refine lin rfl (am (vs:= [(iV w_.tag),(iV w_.n),(.string w_.s),(.bool w_.one)]) T34 rfl ha rfl (hS.blkL 0 rfl) rfl (ag rfl) rfl fun a ha=>?_);have hk124:=dP (hS.tail [(some b114,(.cells #[(iV w_.tag),(iV w_.n),(.string w_.s),(.bool w_.one)] 34 (0,0))),en_0,en28,en23,en22,(some b20,(.cells #[(iV 4),(iV 1),(.string (⟨#[]⟩)),(.bool true)] 34 (0,0))),(some b15,(.cells #[(iV 4),(iV 0),(.string (⟨#[]⟩)),(.bool true)] 34 (0,0))),(some b1,(.cells (tA t A c) 46 (0,0)))]) hK120 hO122 (v:=(Wd.mk 4 0 ⟨#[]⟩ true)) (x:=w_);rw [e6_] at hk124;dsimp only at hk124;rw [hl_] at hk124;refine lin rfl (aq func39 rfl rfl (ha.evs rfl) ha rfl (hk124) ?_);rintro e w ⟨L123,A123,c123,en123,rfl,hR123,hK123,hc123⟩;refine⟨_,rfl,fun a ha=>?_⟩;have hS:=hS.frameR [(some b114,(.cells #[(iV w_.tag),(iV w_.n),(.string w_.s),(.bool w_.one)] 34 (0,0))),en_0,en28,en23,en22,(some b20,(.cells #[(iV 4),(iV 1),(.string (⟨#[]⟩)),(.bool true)] 34 (0,0))),(some b15,(.cells #[(iV 4),(iV 0),(.string (⟨#[]⟩)),(.bool true)] 34 (0,0))),(some b1,(.cells (tA t A c) 46 (0,0)))] hc123;have hO125: HS.Ok h6_:=(show HS.Ok h6_ by have h_:=HS.Ok.bind hO122 (Wd.mk 4 0 ⟨#[]⟩ true) w_;rw [e6_] at h_;exact h_);refine Lm rfl ha fun a ha=>?_;refine lin rfl (ae (v:=(.slice A123 (([]: List Int).length) c123)) ha rfl rfl rfl fun a ha=>?_);refine lin rfl (ae (v:=(iV 0)) ha rfl rfl rfl fun a ha=>?_);refine Ls rfl ha fun a ha=>?_;refine Ls rfl ha fun a ha=>?_;refine wpList_nil (aa (wp_seq (wp_seq (ab (Lm rfl ha fun a ha=>?_)))));refine lin rfl (aX (i:=0) (j:=0) ha rfl rfl rfl fun a ha=>?_);refine wpList_nil (aa (ai ha rfl (wp_skip (aa (wp_seq (ab (Lm rfl ha fun a ha=>?_)))))));refine lin rfl (am (vs:= [(iV 4),(iV 0),(.string (⟨#[]⟩)),(.bool true)]) T34 rfl ha rfl (hS.blkL 6 rfl) rfl (ag rfl) rfl fun a ha=>?_);have hk127:=ce (hS.tail [(some b114,(.cells #[(iV w_.tag),(iV w_.n),(.string w_.s),(.bool w_.one)] 34 (0,0))),en_0,en28,en23,en22,(some b20,(.cells #[(iV 4),(iV 1),(.string (⟨#[]⟩)),(.bool true)] 34 (0,0))),(some b15,(.cells #[(iV 4),(iV 0),(.string (⟨#[]⟩)),(.bool true)] 34 (0,0))),(some b1,(.cells (tA t A c) 46 (0,0))),en123]) hK123 (x:=(Wd.mk 4 0 ⟨#[]⟩ true));rw [r1_] at hk127;dsimp only at hk127;refine lin rfl (aq func20 rfl rfl (ha.evs rfl) ha rfl (hk127) ?_);rintro e w ⟨H126,A126,c126,rfl,hr126,hc126⟩;refine⟨_,rfl,fun a ha=>?_⟩;have hS:=hS.frameR [(some b114,(.cells #[(iV w_.tag),(iV w_.n),(.string w_.s),(.bool w_.one)] 34 (0,0))),en_0,en28,en23,en22,(some b20,(.cells #[(iV 4),(iV 1),(.string (⟨#[]⟩)),(.bool true)] 34 (0,0))),(some b15,(.cells #[(iV 4),(iV 0),(.string (⟨#[]⟩)),(.bool true)] 34 (0,0))),(some b1,(.cells (tA t A c) 46 (0,0))),en123] hc126;refine Lm rfl ha fun a ha=>?_;refine lin rfl (ae (v:=(tv T_ A126 c126)) ha rfl rfl rfl fun a ha=>?_);refine lin rfl (ae (v:=(iV 0)) ha rfl rfl rfl fun a ha=>?_);refine lin rfl (aC (cs:=aZ) T46 hS ha rfl rfl fun b128 a w hS ha=>?_);refine lin rfl (ao (cs':=(tA T_ A126 c126)) T46 hS (i:=0) rfl ha rfl rfl rfl rfl rfl rfl fun a w hS ha=>?_);refine Ls rfl ha fun a ha=>?_;refine wpList_nil (aa (wp_seq (ab (Lm rfl ha fun a ha=>?_))));refine lin rfl (am (vs:= [(iV w_.tag),(iV w_.n),(.string w_.s),(.bool w_.one)]) T34 rfl ha rfl (hS.blkL 1 rfl) rfl (ag rfl) rfl fun a ha=>?_);have hk131:=ce (hS.tail [(some b128,(.cells (tA T_ A126 c126) 46 (0,0))),(some b114,(.cells #[(iV w_.tag),(iV w_.n),(.string w_.s),(.bool w_.one)] 34 (0,0))),en_0,en28,en23,en22,(some b20,(.cells #[(iV 4),(iV 1),(.string (⟨#[]⟩)),(.bool true)] 34 (0,0))),(some b15,(.cells #[(iV 4),(iV 0),(.string (⟨#[]⟩)),(.bool true)] 34 (0,0))),(some b1,(.cells (tA t A c) 46 (0,0))),en123]) hK123 (x:=w_);rw [r2_] at hk131;dsimp only at hk131;refine lin rfl (aq func20 rfl rfl (ha.evs rfl) ha rfl (hk131) ?_);rintro e w ⟨H130,A130,c130,rfl,hr130,hc130⟩;refine⟨_,rfl,fun a ha=>?_⟩;have hS:=hS.frameR [(some b128,(.cells (tA T_ A126 c126) 46 (0,0))),(some b114,(.cells #[(iV w_.tag),(iV w_.n),(.string w_.s),(.bool w_.one)] 34 (0,0))),en_0,en28,en23,en22,(some b20,(.cells #[(iV 4),(iV 1),(.string (⟨#[]⟩)),(.bool true)] 34 (0,0))),(some b15,(.cells #[(iV 4),(iV 0),(.string (⟨#[]⟩)),(.bool true)] 34 (0,0))),(some b1,(.cells (tA t A c) 46 (0,0))),en123] hc130;have hr126:=hr126.mono hc130.le;refine Lm rfl ha fun a ha=>?_;refine lin rfl (ae (v:=(tv T_ A130 c130)) ha rfl rfl rfl fun a ha=>?_);refine lin rfl (ae (v:=(iV 0)) ha rfl rfl rfl fun a ha=>?_);refine lin rfl (aC (cs:=aZ) T46 hS ha rfl rfl fun b132 a w hS ha=>?_);refine lin rfl (ao (cs':=(tA T_ A130 c130)) T46 hS (i:=0) rfl ha rfl rfl rfl rfl rfl rfl fun a w hS ha=>?_);refine Ls rfl ha fun a ha=>?_;refine wpList_nil (aa (wp_seq (wp_seq (ab (Lm rfl ha fun a ha=>?_)))));refine lin rfl (aX (i:=0) (j:=0) ha rfl rfl rfl fun a ha=>?_);refine Lm rfl ha fun a ha=>?_;refine ac rfl ha rfl rfl rfl (av ha rfl rfl fun a ha=>?_);refine ac rfl ha rfl rfl rfl (aX (i:=0) (j:=0) ha rfl rfl rfl fun a ha=>?_);refine lin rfl (aj ha rfl rfl rfl fun a ha=>?_);refine Lm rfl ha fun a ha=>?_;refine ac rfl ha rfl rfl rfl (am (vs:=(tL T_ A126 c126)) T46 rfl ha rfl (hS.blkL 1 rfl) rfl (ag rfl) rfl fun a ha=>?_);refine ac rfl ha rfl rfl rfl (am (vs:=(tL T_ A130 c130)) T46 rfl ha rfl (hS.blkL 0 rfl) rfl (ag rfl) rfl fun a ha=>?_);have hk134:=bP (ta:=T_) (tb:=T_) hS.inv.nil hr126 hr130;rw [show eqT T_ T_=true from (ck _ _).2 rfl] at hk134;refine ac rfl ha rfl rfl rfl (aq func22 rfl rfl (ha.evs rfl) ha rfl (hk134) ?_);rintro e w ⟨rfl,hc⟩;refine⟨_,rfl,fun a ha=>?_⟩;have hS:=hS.call hc;refine ac rfl ha rfl rfl rfl (aJ ha rfl rfl fun a ha=>?_);refine lin rfl (aj ha rfl rfl rfl fun a ha=>?_);refine wpList_nil (aa (ai ha rfl (wp_skip (aa (wp_seq (wp_seq (ab (Lm rfl ha fun a ha=>?_))))))));refine lin rfl (am (vs:= [(iV w_.tag),(iV w_.n),(.string w_.s),(.bool w_.one)]) T34 rfl ha rfl (hS.blkL 2 rfl) rfl (ag rfl) rfl fun a ha=>?_);have hk136:=da (hS.tail [(some b132,(.cells (tA T_ A130 c130) 46 (0,0))),(some b128,(.cells (tA T_ A126 c126) 46 (0,0))),(some b114,(.cells #[(iV w_.tag),(iV w_.n),(.string w_.s),(.bool w_.one)] 34 (0,0))),en_0,en28,en23,en22,(some b20,(.cells #[(iV 4),(iV 1),(.string (⟨#[]⟩)),(.bool true)] 34 (0,0))),(some b15,(.cells #[(iV 4),(iV 0),(.string (⟨#[]⟩)),(.bool true)] 34 (0,0))),(some b1,(.cells (tA t A c) 46 (0,0))),en123]) hK123 (x:=w_);rw [r3_] at hk136;dsimp only at hk136;refine lin rfl (aq func40 rfl rfl (ha.evs rfl) ha rfl (hk136) ?_);rintro e w ⟨rfl,hc135⟩;refine⟨_,rfl,fun a ha=>?_⟩;have hS:=hS.frameR [(some b132,(.cells (tA T_ A130 c130) 46 (0,0))),(some b128,(.cells (tA T_ A126 c126) 46 (0,0))),(some b114,(.cells #[(iV w_.tag),(iV w_.n),(.string w_.s),(.bool w_.one)] 34 (0,0))),en_0,en28,en23,en22,(some b20,(.cells #[(iV 4),(iV 1),(.string (⟨#[]⟩)),(.bool true)] 34 (0,0))),(some b15,(.cells #[(iV 4),(iV 0),(.string (⟨#[]⟩)),(.bool true)] 34 (0,0))),(some b1,(.cells (tA t A c) 46 (0,0))),en123] hc135;refine Lm rfl ha fun a ha=>?_;refine lin rfl (ae (v:=(.agg #[(iV w_.tag),(iV w_.n),(.string w_.s),(.bool w_.one)])) ha rfl rfl rfl fun a ha=>?_);refine lin rfl (ae (v:=(iV 0)) ha rfl rfl rfl fun a ha=>?_);refine lin rfl (aC (cs:= #[(iV 0),(iV 0),(.string (⟨#[]⟩)),(.bool false)]) T34 hS ha rfl rfl fun b137 a w hS ha=>?_);refine lin rfl (ao (cs':= #[(iV w_.tag),(iV w_.n),(.string w_.s),(.bool w_.one)]) T34 hS (i:=0) rfl ha rfl rfl rfl rfl rfl rfl fun a w hS ha=>?_);refine Ls rfl ha fun a ha=>?_;refine wpList_nil (aa (wp_seq (ab (Lm rfl ha fun a ha=>?_))));refine lin rfl (aP (i:=0) (j:=0) ha rfl rfl rfl fun a ha=>?_);refine Lm rfl ha fun a ha=>?_;refine ac rfl ha rfl rfl rfl (ad (f:=0) (o2:=0) T34 T3 rfl rfl rfl rfl ha rfl rfl fun a ha=>?_);refine ac rfl ha rfl rfl rfl (af (v:=(iV w_.tag)) T3 rfl ha rfl (hS.blkL 0 rfl) rfl rfl fun a ha=>?_);refine ac rfl ha rfl rfl rfl (aP (i:=w_.tag) (j:=4) ha rfl rfl rfl fun a ha=>?_);rw [decide_eq_true (by exact ht4_)] at ha;refine lin rfl (an ha rfl rfl rfl fun a ha=>?_);refine wpList_nil (aa (ap ha rfl (wp_seq (wp_seq (ab (Lm rfl ha fun a ha=>?_))))));refine lin rfl (aG T22.und ha rfl rfl fun a ha=>?_);refine Lm rfl ha fun a ha=>?_;refine wpList_nil (aa (wp_block (aO (fun nn_ a w=> ∃(H139: PHeap),∃(k2: Nat),∃(xs_1: List Int),∃(en_1: Ent),∃(A_1: Option Addr),∃(c_1: Nat),Le H130 H139∧nn_=hk0_.length - k2∧Has [] a 202 [(9,(pB p9)),(12,(pB b20)),(15,(.slice A_1 xs_1.length c_1)),(20,(.slice A123 (([]: List Int).length) c123)),(166,(.slice A22 hk0_.length c22)),(167,(iV ((hk0_.length: Nat): Int))),(168,(iV ((k2: Nat): Int)))]∧Step w0 H [] w H139 ((some b137,(.cells #[(iV w_.tag),(iV w_.n),(.string w_.s),(.bool w_.one)] 34 (0,0)))::(some b132,(.cells (tA T_ A130 c130) 46 (0,0)))::(some b128,(.cells (tA T_ A126 c126) 46 (0,0)))::(some b114,(.cells #[(iV w_.tag),(iV w_.n),(.string w_.s),(.bool w_.one)] 34 (0,0)))::en_0::en28::en_1::en22::(some b20,(.cells #[(iV 4),(iV 1),(.string (⟨#[]⟩)),(.bool true)] 34 (0,0)))::(some b15,(.cells #[(iV 4),(iV 0),(.string (⟨#[]⟩)),(.bool true)] 34 (0,0)))::(some b1,(.cells (tA t A c) 46 (0,0)))::en123::L123)∧(Row (.slice A_1 xs_1.length c_1) en_1 3 1 xs_1.length (ints xs_1))∧(addG xs_1 (hk0_.drop k2)=addG hk1_ hk0_)∧(xs_1.length≤20+k2)∧(k2≤hk0_.length)) _ ⟨H130,0,hk1_,en23,A23,c23,Le.refl _,rfl,ha.pk rfl,hS,(by simpa using hR23),rfl,(by omega),(by omega)⟩ ?_)));intro n139 a w hh;obtain⟨H139,k2,xs_1,en_1,A_1,c_1,hle139,hn139,ha,hS,hR_1,hag,hal,hk2⟩:=hh;refine wp_seq (ab (lin rfl (aQ (i:=((k2: Nat): Int)) (j:=((hk0_.length: Nat): Int)) ha rfl rfl rfl fun a ha=>?_)));refine wpList_nil (aa (wp_seq (ak (t:=169) ha rfl (fun h140 ha=>?_) (fun h140 ha=>?_))))
          ·refine ap ha rfl (wp_skip (aa (wp_seq (wp_block (wp_seq (ab ?_))))));obtain⟨b141,cap141,cur141,hv141,he141,hc141, -⟩:=hR22.at_ (j:=k2) (by omega);have hA141:(A22: Option Addr)=some ⟨b141,0,none⟩:=by injection hv141
           obtain⟨x141,hx141⟩: ∃ x,hk0_[k2]? =some x:=⟨_,List.getElem?_eq_getElem (by first | omega |(simp;omega))⟩;have hc141:=hc141 0 (iV x141) (by omega) (bw hx141);refine lin rfl (aA (b:=b141) (o:=0) (j:=k2) T22.und T3 hA141 ha rfl rfl (by omega) (by omega) rfl fun a ha=>?_);refine lin rfl (af (v:=(iV x141)) T3 rfl ha rfl (hS.blkL 7 (b:=b141) (o:=.cells cur141 3 (0,0)) (by rw [← he141];rfl)) hc141 rfl fun a ha=>?_);refine Ls rfl ha fun a ha=>?_;refine wpList_nil (aa (wp_seq (ab (Lm rfl ha fun a ha=>?_))));refine Lm rfl ha fun a ha=>?_;refine lin rfl (aq func41 rfl rfl (ha.evs rfl) ha rfl (bM hS.inv.nil (RdI.of_row hS.inv hR_1 6 rfl (by first | omega | simp |(simp;omega)))) ?_);rintro e w ⟨rfl,hc⟩;refine⟨_,rfl,fun a ha=>?_⟩;have hS:=hS.call hc;refine lin rfl (aJ ha rfl rfl fun a ha=>?_);refine wpList_nil (aa (au (t:=175) ha rfl (fun h142 ha=>?_) (fun h142 ha=>?_)))
           ·refine ap ha rfl (ab (Lm rfl ha fun a ha=>?_));refine Lm rfl ha fun a ha=>?_;refine lin rfl (bg (vs:= [(0,(iV x141))]) (cells:= [(iV x141)]) T22.und T3 hS ha (ha.evp rfl) rfl rfl rfl rfl fun b143 a w hS ha=>?_);obtain⟨H143,hS,hle143,hb143⟩:=hS.give;have hr143: RowI H143 (some ⟨b143,0,none⟩) 1 [x141]:=RowI.of_lit [x141] hb143 (by simp) rfl;have hS:=hS.front 6 rfl;refine lin rfl (aV (news:=(ints [x141])) (xs:=(ints xs_1)) T22.und T3 rfl rfl hS hR_1 ha rfl rfl rfl (fun _=>⟨b143,0,_,_,_,rfl,hS.blkH hb143,ag rfl⟩) (bE rfl) (by omega) rfl rfl fun v144 en144 a w hR144 hS ha=>?_);rw [← List.map_append] at hR144;obtain⟨A144,c144,rfl⟩:=hR144.slice;have hn_:(xs_1.length+1)=(xs_1++ [x141]).length:=by have h_:=hR144.1;simp only [List.length_map] at h_;omega
            rw [show Value.slice A144 (xs_1.length+1) c144=Value.slice A144 (xs_1++ [x141]).length c144 from by rw [hn_]] at ha;rw [hn_] at hR144;refine Ls rfl ha fun a ha=>?_;refine wpList_nil (ar (aa (ab (lin rfl (aF (i:=((k2: Nat): Int)) (j:=1) ha rfl rfl rfl (by omega) fun a ha=>?_)))));refine Lm rfl ha fun a ha=>?_;refine wpList_nil (aa (?_));have hS:=hS.front 11 rfl;have hS:=hS.front 11 rfl;have hS:=hS.front 11 rfl;have hS:=hS.front 11 rfl;have hS:=hS.front 11 rfl;have hS:=hS.front 5 rfl;have hS:=hS.front 11 rfl;have hS:=hS.front 11 rfl;have hS:=hS.front 11 rfl;have hS:=hS.front 11 rfl;have hS:=hS.front 11 rfl;have hS:=hS.front 11 rfl;exact⟨hk0_.length - (k2+1),by omega,H143,(k2+1),(xs_1++ [x141]),en144,A144,c144,(hle139.trans (hle143)),rfl,ha.pk rfl,hS,hR144,(by
              rw [← hag,br hx141]
              congr 1
              have hq_:=h142;rw [if_neg (fun e_=>by rw [e_] at hq_;cases hq_)]),(by first | omega |(simp;omega)),(by omega)⟩
           ·refine ai ha rfl (wp_skip (ar (aa (ab (lin rfl (aF (i:=((k2: Nat): Int)) (j:=1) ha rfl rfl rfl (by omega) fun a ha=>?_))))));refine Lm rfl ha fun a ha=>?_;refine wpList_nil (aa (?_));exact⟨hk0_.length - (k2+1),by omega,H139,(k2+1),xs_1,en_1,A_1,c_1,(hle139),rfl,ha.pk rfl,hS,hR_1,(by
              rw [← hag,br hx141]
              congr 1
              have hq_:=h142;rw [if_pos (by cases h_: xs_1.contains x141 with
               | true=>rfl
               | false=>rw [h_] at hq_;cases hq_)]),(by first | omega |(simp;omega)),(by omega)⟩
          ·refine ai ha rfl (wp_exit (aw (aw (aH (aa (wp_seq ?_))))));have hal2_:=cY hk0_ hk1_;refine ab (Lm rfl ha fun a ha=>?_);refine lin rfl (am (vs:= [(iV 4),(iV 1),(.string (⟨#[]⟩)),(.bool true)]) T34 rfl ha rfl (hS.blkL 8 rfl) rfl (ag rfl) rfl fun a ha=>?_);have hk146:=eH (hS.tail [(some b137,(.cells #[(iV w_.tag),(iV w_.n),(.string w_.s),(.bool w_.one)] 34 (0,0))),(some b132,(.cells (tA T_ A130 c130) 46 (0,0))),(some b128,(.cells (tA T_ A126 c126) 46 (0,0))),(some b114,(.cells #[(iV w_.tag),(iV w_.n),(.string w_.s),(.bool w_.one)] 34 (0,0))),en_0,en28,en_1,en22,(some b20,(.cells #[(iV 4),(iV 1),(.string (⟨#[]⟩)),(.bool true)] 34 (0,0))),(some b15,(.cells #[(iV 4),(iV 0),(.string (⟨#[]⟩)),(.bool true)] 34 (0,0))),(some b1,(.cells (tA t A c) 46 (0,0))),en123]) hK123 (v:=(Wd.mk 4 1 ⟨#[]⟩ true));rw [hh_] at hk146;dsimp only at hk146;refine lin rfl (aq func42 rfl rfl (ha.evs rfl) ha rfl (hk146) ?_);rintro e w ⟨A145,c145,en145,rfl,hR145,hc145⟩;refine⟨_,rfl,fun a ha=>?_⟩;have hS:=Step.perm (hS.frameR [(some b137,(.cells #[(iV w_.tag),(iV w_.n),(.string w_.s),(.bool w_.one)] 34 (0,0))),(some b132,(.cells (tA T_ A130 c130) 46 (0,0))),(some b128,(.cells (tA T_ A126 c126) 46 (0,0))),(some b114,(.cells #[(iV w_.tag),(iV w_.n),(.string w_.s),(.bool w_.one)] 34 (0,0))),en_0,en28,en_1,en22,(some b20,(.cells #[(iV 4),(iV 1),(.string (⟨#[]⟩)),(.bool true)] 34 (0,0))),(some b15,(.cells #[(iV 4),(iV 0),(.string (⟨#[]⟩)),(.bool true)] 34 (0,0))),(some b1,(.cells (tA t A c) 46 (0,0))),en123] hc145) List.perm_middle;refine Lm rfl ha fun a ha=>?_;refine lin rfl (ae (v:=(.slice A145 ((addG hk1_ hk0_).length) c145)) ha rfl rfl rfl fun a ha=>?_);refine lin rfl (ae (v:=(iV 0)) ha rfl rfl rfl fun a ha=>?_);refine Ls rfl ha fun a ha=>?_;refine Ls rfl ha fun a ha=>?_;refine wpList_nil (aa (wp_seq (ab (Lm rfl ha fun a ha=>?_))));refine lin rfl (aG T22.und ha rfl rfl fun a ha=>?_);refine lin rfl (aP (i:=((([]: List Int).length: Nat): Int)) (j:=0) ha rfl rfl rfl fun a ha=>?_);rw [decide_eq_true (by rfl)] at ha;refine Lm rfl ha fun a ha=>?_;refine ac rfl ha rfl rfl rfl (av ha rfl rfl fun a ha=>?_);refine ac rfl ha rfl rfl rfl (aP (i:=0) (j:=0) ha rfl rfl rfl fun a ha=>?_);refine lin rfl (an ha rfl rfl rfl fun a ha=>?_);refine Lm rfl ha fun a ha=>?_;refine ac rfl ha rfl rfl rfl (av ha rfl rfl fun a ha=>?_);refine ac rfl ha rfl rfl rfl (av ha rfl rfl fun a ha=>?_);have hk147:=cI hS.inv.nil (RdI.of_row hS.inv hR145 0 rfl (by first | omega | simp |(simp;omega))) (RdI.of_row hS.inv hR_1 7 rfl (by first | omega | simp |(simp;omega)));rw [show decide ((addG hk1_ hk0_)=xs_1)=true from decide_eq_true (by rw [← hag,dL (by omega)])] at hk147;refine ac rfl ha rfl rfl rfl (aq func43 rfl rfl (ha.evs rfl) ha rfl (hk147) ?_);rintro e w ⟨rfl,hc⟩;refine⟨_,rfl,fun a ha=>?_⟩;have hS:=hS.call hc;refine lin rfl (an ha rfl rfl rfl fun a ha=>?_);refine Ls rfl ha fun a ha=>?_;refine wpList_nil (aa (wp_ret (ah (ret1 rfl ha rfl ?_))));exact⟨_,rfl,hS.drop_all⟩
         ·refine ab (Lm rfl ha fun a ha=>?_);refine lin rfl (am (vs:= [(iV 4),(iV 0),(.string (⟨#[]⟩)),(.bool true)]) T34 rfl ha rfl (hS.blkL 6 rfl) rfl (ag rfl) rfl fun a ha=>?_);refine lin rfl (am (vs:= [(iV w_.tag),(iV w_.n),(.string w_.s),(.bool w_.one)]) T34 rfl ha rfl (hS.blkL 0 rfl) rfl (ag rfl) rfl fun a ha=>?_);have hk149:=dP (hS.tail [(some b114,(.cells #[(iV w_.tag),(iV w_.n),(.string w_.s),(.bool w_.one)] 34 (0,0))),en_0,en28,en23,en22,(some b20,(.cells #[(iV 4),(iV 1),(.string (⟨#[]⟩)),(.bool true)] 34 (0,0))),(some b15,(.cells #[(iV 4),(iV 0),(.string (⟨#[]⟩)),(.bool true)] 34 (0,0))),(some b1,(.cells (tA t A c) 46 (0,0)))]) hK120 hO122 (v:=(Wd.mk 4 0 ⟨#[]⟩ true)) (x:=w_);rw [e6_] at hk149;dsimp only at hk149;rw [hl_] at hk149;refine lin rfl (aq func39 rfl rfl (ha.evs rfl) ha rfl (hk149) ?_);rintro e w ⟨L148,A148,c148,en148,rfl,hR148,hK148,hc148⟩;refine⟨_,rfl,fun a ha=>?_⟩;have hS:=hS.frameR [(some b114,(.cells #[(iV w_.tag),(iV w_.n),(.string w_.s),(.bool w_.one)] 34 (0,0))),en_0,en28,en23,en22,(some b20,(.cells #[(iV 4),(iV 1),(.string (⟨#[]⟩)),(.bool true)] 34 (0,0))),(some b15,(.cells #[(iV 4),(iV 0),(.string (⟨#[]⟩)),(.bool true)] 34 (0,0))),(some b1,(.cells (tA t A c) 46 (0,0)))] hc148;have hO150: HS.Ok h6_:=(show HS.Ok h6_ by have h_:=HS.Ok.bind hO122 (Wd.mk 4 0 ⟨#[]⟩ true) w_;rw [e6_] at h_;exact h_);refine Lm rfl ha fun a ha=>?_;refine lin rfl (ae (v:=(.slice A148 hk0_.length c148)) ha rfl rfl rfl fun a ha=>?_);refine lin rfl (ae (v:=(iV 0)) ha rfl rfl rfl fun a ha=>?_);refine Ls rfl ha fun a ha=>?_;refine Ls rfl ha fun a ha=>?_;refine wpList_nil (aa (wp_seq (wp_seq (ab (Lm rfl ha fun a ha=>?_)))));refine lin rfl (aX (i:=0) (j:=0) ha rfl rfl rfl fun a ha=>?_);refine wpList_nil (aa (ai ha rfl (wp_skip (aa (wp_seq (ab (Lm rfl ha fun a ha=>?_)))))));refine lin rfl (am (vs:= [(iV 4),(iV 0),(.string (⟨#[]⟩)),(.bool true)]) T34 rfl ha rfl (hS.blkL 6 rfl) rfl (ag rfl) rfl fun a ha=>?_);have hk152:=ce (hS.tail [(some b114,(.cells #[(iV w_.tag),(iV w_.n),(.string w_.s),(.bool w_.one)] 34 (0,0))),en_0,en28,en23,en22,(some b20,(.cells #[(iV 4),(iV 1),(.string (⟨#[]⟩)),(.bool true)] 34 (0,0))),(some b15,(.cells #[(iV 4),(iV 0),(.string (⟨#[]⟩)),(.bool true)] 34 (0,0))),(some b1,(.cells (tA t A c) 46 (0,0))),en148]) hK148 (x:=(Wd.mk 4 0 ⟨#[]⟩ true));rw [r1_] at hk152;dsimp only at hk152;refine lin rfl (aq func20 rfl rfl (ha.evs rfl) ha rfl (hk152) ?_);rintro e w ⟨H151,A151,c151,rfl,hr151,hc151⟩;refine⟨_,rfl,fun a ha=>?_⟩;have hS:=hS.frameR [(some b114,(.cells #[(iV w_.tag),(iV w_.n),(.string w_.s),(.bool w_.one)] 34 (0,0))),en_0,en28,en23,en22,(some b20,(.cells #[(iV 4),(iV 1),(.string (⟨#[]⟩)),(.bool true)] 34 (0,0))),(some b15,(.cells #[(iV 4),(iV 0),(.string (⟨#[]⟩)),(.bool true)] 34 (0,0))),(some b1,(.cells (tA t A c) 46 (0,0))),en148] hc151;refine Lm rfl ha fun a ha=>?_;refine lin rfl (ae (v:=(tv T_ A151 c151)) ha rfl rfl rfl fun a ha=>?_);refine lin rfl (ae (v:=(iV 0)) ha rfl rfl rfl fun a ha=>?_);refine lin rfl (aC (cs:=aZ) T46 hS ha rfl rfl fun b153 a w hS ha=>?_);refine lin rfl (ao (cs':=(tA T_ A151 c151)) T46 hS (i:=0) rfl ha rfl rfl rfl rfl rfl rfl fun a w hS ha=>?_);refine Ls rfl ha fun a ha=>?_;refine wpList_nil (aa (wp_seq (ab (Lm rfl ha fun a ha=>?_))));refine lin rfl (am (vs:= [(iV w_.tag),(iV w_.n),(.string w_.s),(.bool w_.one)]) T34 rfl ha rfl (hS.blkL 1 rfl) rfl (ag rfl) rfl fun a ha=>?_);have hk156:=ce (hS.tail [(some b153,(.cells (tA T_ A151 c151) 46 (0,0))),(some b114,(.cells #[(iV w_.tag),(iV w_.n),(.string w_.s),(.bool w_.one)] 34 (0,0))),en_0,en28,en23,en22,(some b20,(.cells #[(iV 4),(iV 1),(.string (⟨#[]⟩)),(.bool true)] 34 (0,0))),(some b15,(.cells #[(iV 4),(iV 0),(.string (⟨#[]⟩)),(.bool true)] 34 (0,0))),(some b1,(.cells (tA t A c) 46 (0,0))),en148]) hK148 (x:=w_);rw [r2_] at hk156;dsimp only at hk156;refine lin rfl (aq func20 rfl rfl (ha.evs rfl) ha rfl (hk156) ?_);rintro e w ⟨H155,A155,c155,rfl,hr155,hc155⟩;refine⟨_,rfl,fun a ha=>?_⟩;have hS:=hS.frameR [(some b153,(.cells (tA T_ A151 c151) 46 (0,0))),(some b114,(.cells #[(iV w_.tag),(iV w_.n),(.string w_.s),(.bool w_.one)] 34 (0,0))),en_0,en28,en23,en22,(some b20,(.cells #[(iV 4),(iV 1),(.string (⟨#[]⟩)),(.bool true)] 34 (0,0))),(some b15,(.cells #[(iV 4),(iV 0),(.string (⟨#[]⟩)),(.bool true)] 34 (0,0))),(some b1,(.cells (tA t A c) 46 (0,0))),en148] hc155;have hr151:=hr151.mono hc155.le;refine Lm rfl ha fun a ha=>?_;refine lin rfl (ae (v:=(tv T_ A155 c155)) ha rfl rfl rfl fun a ha=>?_);refine lin rfl (ae (v:=(iV 0)) ha rfl rfl rfl fun a ha=>?_);refine lin rfl (aC (cs:=aZ) T46 hS ha rfl rfl fun b157 a w hS ha=>?_);refine lin rfl (ao (cs':=(tA T_ A155 c155)) T46 hS (i:=0) rfl ha rfl rfl rfl rfl rfl rfl fun a w hS ha=>?_);refine Ls rfl ha fun a ha=>?_;refine wpList_nil (aa (wp_seq (wp_seq (ab (Lm rfl ha fun a ha=>?_)))));refine lin rfl (aX (i:=0) (j:=0) ha rfl rfl rfl fun a ha=>?_);refine Lm rfl ha fun a ha=>?_;refine ac rfl ha rfl rfl rfl (av ha rfl rfl fun a ha=>?_);refine ac rfl ha rfl rfl rfl (aX (i:=0) (j:=0) ha rfl rfl rfl fun a ha=>?_);refine lin rfl (aj ha rfl rfl rfl fun a ha=>?_);refine Lm rfl ha fun a ha=>?_;refine ac rfl ha rfl rfl rfl (am (vs:=(tL T_ A151 c151)) T46 rfl ha rfl (hS.blkL 1 rfl) rfl (ag rfl) rfl fun a ha=>?_);refine ac rfl ha rfl rfl rfl (am (vs:=(tL T_ A155 c155)) T46 rfl ha rfl (hS.blkL 0 rfl) rfl (ag rfl) rfl fun a ha=>?_);have hk159:=bP (ta:=T_) (tb:=T_) hS.inv.nil hr151 hr155;rw [show eqT T_ T_=true from (ck _ _).2 rfl] at hk159;refine ac rfl ha rfl rfl rfl (aq func22 rfl rfl (ha.evs rfl) ha rfl (hk159) ?_);rintro e w ⟨rfl,hc⟩;refine⟨_,rfl,fun a ha=>?_⟩;have hS:=hS.call hc;refine ac rfl ha rfl rfl rfl (aJ ha rfl rfl fun a ha=>?_);refine lin rfl (aj ha rfl rfl rfl fun a ha=>?_);refine wpList_nil (aa (ai ha rfl (wp_skip (aa (wp_seq (wp_seq (ab (Lm rfl ha fun a ha=>?_))))))));refine lin rfl (am (vs:= [(iV w_.tag),(iV w_.n),(.string w_.s),(.bool w_.one)]) T34 rfl ha rfl (hS.blkL 2 rfl) rfl (ag rfl) rfl fun a ha=>?_);have hk161:=da (hS.tail [(some b157,(.cells (tA T_ A155 c155) 46 (0,0))),(some b153,(.cells (tA T_ A151 c151) 46 (0,0))),(some b114,(.cells #[(iV w_.tag),(iV w_.n),(.string w_.s),(.bool w_.one)] 34 (0,0))),en_0,en28,en23,en22,(some b20,(.cells #[(iV 4),(iV 1),(.string (⟨#[]⟩)),(.bool true)] 34 (0,0))),(some b15,(.cells #[(iV 4),(iV 0),(.string (⟨#[]⟩)),(.bool true)] 34 (0,0))),(some b1,(.cells (tA t A c) 46 (0,0))),en148]) hK148 (x:=w_);rw [r3_] at hk161;dsimp only at hk161;refine lin rfl (aq func40 rfl rfl (ha.evs rfl) ha rfl (hk161) ?_);rintro e w ⟨rfl,hc160⟩;refine⟨_,rfl,fun a ha=>?_⟩;have hS:=hS.frameR [(some b157,(.cells (tA T_ A155 c155) 46 (0,0))),(some b153,(.cells (tA T_ A151 c151) 46 (0,0))),(some b114,(.cells #[(iV w_.tag),(iV w_.n),(.string w_.s),(.bool w_.one)] 34 (0,0))),en_0,en28,en23,en22,(some b20,(.cells #[(iV 4),(iV 1),(.string (⟨#[]⟩)),(.bool true)] 34 (0,0))),(some b15,(.cells #[(iV 4),(iV 0),(.string (⟨#[]⟩)),(.bool true)] 34 (0,0))),(some b1,(.cells (tA t A c) 46 (0,0))),en148] hc160;refine Lm rfl ha fun a ha=>?_;refine lin rfl (ae (v:=(.agg #[(iV w_.tag),(iV w_.n),(.string w_.s),(.bool w_.one)])) ha rfl rfl rfl fun a ha=>?_);refine lin rfl (ae (v:=(iV 0)) ha rfl rfl rfl fun a ha=>?_);refine lin rfl (aC (cs:= #[(iV 0),(iV 0),(.string (⟨#[]⟩)),(.bool false)]) T34 hS ha rfl rfl fun b162 a w hS ha=>?_);refine lin rfl (ao (cs':= #[(iV w_.tag),(iV w_.n),(.string w_.s),(.bool w_.one)]) T34 hS (i:=0) rfl ha rfl rfl rfl rfl rfl rfl fun a w hS ha=>?_);refine Ls rfl ha fun a ha=>?_;refine wpList_nil (aa (wp_seq (ab (Lm rfl ha fun a ha=>?_))));refine lin rfl (aP (i:=0) (j:=0) ha rfl rfl rfl fun a ha=>?_);refine Lm rfl ha fun a ha=>?_;refine ac rfl ha rfl rfl rfl (ad (f:=0) (o2:=0) T34 T3 rfl rfl rfl rfl ha rfl rfl fun a ha=>?_);refine ac rfl ha rfl rfl rfl (af (v:=(iV w_.tag)) T3 rfl ha rfl (hS.blkL 0 rfl) rfl rfl fun a ha=>?_);refine ac rfl ha rfl rfl rfl (aP (i:=w_.tag) (j:=4) ha rfl rfl rfl fun a ha=>?_);rw [decide_eq_false (by exact ht4_)] at ha;refine lin rfl (an ha rfl rfl rfl fun a ha=>?_);refine wpList_nil (aa (ai ha rfl (wp_skip (aa (wp_seq (ab (Lm rfl ha fun a ha=>?_)))))));refine Lm rfl ha fun a ha=>?_;have hk164:=cI hS.inv.nil (RdI.of_row hS.inv hR148 11 rfl (by first | omega | simp |(simp;omega))) (RdI.of_row hS.inv hR22 7 rfl (by first | omega | simp |(simp;omega)));rw [show decide (hk0_=hk0_)=true from decide_eq_true rfl] at hk164;refine lin rfl (aq func43 rfl rfl (ha.evs rfl) ha rfl (hk164) ?_);rintro e w ⟨rfl,hc⟩;refine⟨_,rfl,fun a ha=>?_⟩;have hS:=hS.call hc;refine Ls rfl ha fun a ha=>?_;refine wpList_nil (aa (wp_ret (ret1 rfl ha rfl ?_)));exact⟨_,rfl,hS.drop_all⟩
       ·refine ai ha rfl (wp_skip (aa (wp_seq ?_)));obtain⟨h6_,T_,l_,e6_,r1_,r2_,r3_,hor_⟩:=db (h:=g4_) b0_ b1_ ⟨l0_,l1_⟩ (x:=(Wd.mk 4 1 ⟨#[]⟩ true)) (.inl ⟨true,rfl⟩)
        rcases hor_ with ⟨ht4_,hl_,hh_⟩ |⟨ht4_,hl_⟩
        ·refine ab (Lm rfl ha fun a ha=>?_);refine lin rfl (am (vs:= [(iV 4),(iV 0),(.string (⟨#[]⟩)),(.bool true)]) T34 rfl ha rfl (hS.blkL 6 rfl) rfl (ag rfl) rfl fun a ha=>?_);refine lin rfl (am (vs:= [(iV 4),(iV 1),(.string (⟨#[]⟩)),(.bool true)]) T34 rfl ha rfl (hS.blkL 0 rfl) rfl (ag rfl) rfl fun a ha=>?_);have hk166:=dP (hS.tail [(some b114,(.cells #[(iV 4),(iV 1),(.string (⟨#[]⟩)),(.bool true)] 34 (0,0))),en_0,en28,en23,en22,(some b20,(.cells #[(iV 4),(iV 1),(.string (⟨#[]⟩)),(.bool true)] 34 (0,0))),(some b15,(.cells #[(iV 4),(iV 0),(.string (⟨#[]⟩)),(.bool true)] 34 (0,0))),(some b1,(.cells (tA t A c) 46 (0,0)))]) hKm23 (show HS.Ok g4_ by have h_:=aM (show HS.Ok g3_ by have h_:=aM hO19 (Wd.mk 4 0 ⟨#[]⟩ true) goals [];rw [e3_] at h_;exact h_) (Wd.mk 4 1 ⟨#[]⟩ true) others [];rw [e4_] at h_;exact h_) (v:=(Wd.mk 4 0 ⟨#[]⟩ true)) (x:=(Wd.mk 4 1 ⟨#[]⟩ true));rw [e6_] at hk166;dsimp only at hk166;rw [hl_] at hk166;refine lin rfl (aq func39 rfl rfl (ha.evs rfl) ha rfl (hk166) ?_);rintro e w ⟨L165,A165,c165,en165,rfl,hR165,hK165,hc165⟩;refine⟨_,rfl,fun a ha=>?_⟩;have hS:=hS.frameR [(some b114,(.cells #[(iV 4),(iV 1),(.string (⟨#[]⟩)),(.bool true)] 34 (0,0))),en_0,en28,en23,en22,(some b20,(.cells #[(iV 4),(iV 1),(.string (⟨#[]⟩)),(.bool true)] 34 (0,0))),(some b15,(.cells #[(iV 4),(iV 0),(.string (⟨#[]⟩)),(.bool true)] 34 (0,0))),(some b1,(.cells (tA t A c) 46 (0,0)))] hc165;have hO167: HS.Ok h6_:=(show HS.Ok h6_ by have h_:=HS.Ok.bind (show HS.Ok g4_ by have h_:=aM (show HS.Ok g3_ by have h_:=aM hO19 (Wd.mk 4 0 ⟨#[]⟩ true) goals [];rw [e3_] at h_;exact h_) (Wd.mk 4 1 ⟨#[]⟩ true) others [];rw [e4_] at h_;exact h_) (Wd.mk 4 0 ⟨#[]⟩ true) (Wd.mk 4 1 ⟨#[]⟩ true);rw [e6_] at h_;exact h_);refine Lm rfl ha fun a ha=>?_;refine lin rfl (ae (v:=(.slice A165 (([]: List Int).length) c165)) ha rfl rfl rfl fun a ha=>?_);refine lin rfl (ae (v:=(iV 0)) ha rfl rfl rfl fun a ha=>?_);refine Ls rfl ha fun a ha=>?_;refine Ls rfl ha fun a ha=>?_;refine wpList_nil (aa (wp_seq (wp_seq (ab (Lm rfl ha fun a ha=>?_)))));refine lin rfl (aX (i:=0) (j:=0) ha rfl rfl rfl fun a ha=>?_);refine wpList_nil (aa (ai ha rfl (wp_skip (aa (wp_seq (ab (Lm rfl ha fun a ha=>?_)))))));refine lin rfl (am (vs:= [(iV 4),(iV 0),(.string (⟨#[]⟩)),(.bool true)]) T34 rfl ha rfl (hS.blkL 6 rfl) rfl (ag rfl) rfl fun a ha=>?_);have hk169:=ce (hS.tail [(some b114,(.cells #[(iV 4),(iV 1),(.string (⟨#[]⟩)),(.bool true)] 34 (0,0))),en_0,en28,en23,en22,(some b20,(.cells #[(iV 4),(iV 1),(.string (⟨#[]⟩)),(.bool true)] 34 (0,0))),(some b15,(.cells #[(iV 4),(iV 0),(.string (⟨#[]⟩)),(.bool true)] 34 (0,0))),(some b1,(.cells (tA t A c) 46 (0,0))),en165]) hK165 (x:=(Wd.mk 4 0 ⟨#[]⟩ true));rw [r1_] at hk169;dsimp only at hk169;refine lin rfl (aq func20 rfl rfl (ha.evs rfl) ha rfl (hk169) ?_);rintro e w ⟨H168,A168,c168,rfl,hr168,hc168⟩;refine⟨_,rfl,fun a ha=>?_⟩;have hS:=hS.frameR [(some b114,(.cells #[(iV 4),(iV 1),(.string (⟨#[]⟩)),(.bool true)] 34 (0,0))),en_0,en28,en23,en22,(some b20,(.cells #[(iV 4),(iV 1),(.string (⟨#[]⟩)),(.bool true)] 34 (0,0))),(some b15,(.cells #[(iV 4),(iV 0),(.string (⟨#[]⟩)),(.bool true)] 34 (0,0))),(some b1,(.cells (tA t A c) 46 (0,0))),en165] hc168;refine Lm rfl ha fun a ha=>?_;refine lin rfl (ae (v:=(tv T_ A168 c168)) ha rfl rfl rfl fun a ha=>?_);refine lin rfl (ae (v:=(iV 0)) ha rfl rfl rfl fun a ha=>?_);refine lin rfl (aC (cs:=aZ) T46 hS ha rfl rfl fun b170 a w hS ha=>?_);refine lin rfl (ao (cs':=(tA T_ A168 c168)) T46 hS (i:=0) rfl ha rfl rfl rfl rfl rfl rfl fun a w hS ha=>?_);refine Ls rfl ha fun a ha=>?_;refine wpList_nil (aa (wp_seq (ab (Lm rfl ha fun a ha=>?_))));refine lin rfl (am (vs:= [(iV 4),(iV 1),(.string (⟨#[]⟩)),(.bool true)]) T34 rfl ha rfl (hS.blkL 1 rfl) rfl (ag rfl) rfl fun a ha=>?_);have hk173:=ce (hS.tail [(some b170,(.cells (tA T_ A168 c168) 46 (0,0))),(some b114,(.cells #[(iV 4),(iV 1),(.string (⟨#[]⟩)),(.bool true)] 34 (0,0))),en_0,en28,en23,en22,(some b20,(.cells #[(iV 4),(iV 1),(.string (⟨#[]⟩)),(.bool true)] 34 (0,0))),(some b15,(.cells #[(iV 4),(iV 0),(.string (⟨#[]⟩)),(.bool true)] 34 (0,0))),(some b1,(.cells (tA t A c) 46 (0,0))),en165]) hK165 (x:=(Wd.mk 4 1 ⟨#[]⟩ true));rw [r2_] at hk173;dsimp only at hk173;refine lin rfl (aq func20 rfl rfl (ha.evs rfl) ha rfl (hk173) ?_);rintro e w ⟨H172,A172,c172,rfl,hr172,hc172⟩;refine⟨_,rfl,fun a ha=>?_⟩;have hS:=hS.frameR [(some b170,(.cells (tA T_ A168 c168) 46 (0,0))),(some b114,(.cells #[(iV 4),(iV 1),(.string (⟨#[]⟩)),(.bool true)] 34 (0,0))),en_0,en28,en23,en22,(some b20,(.cells #[(iV 4),(iV 1),(.string (⟨#[]⟩)),(.bool true)] 34 (0,0))),(some b15,(.cells #[(iV 4),(iV 0),(.string (⟨#[]⟩)),(.bool true)] 34 (0,0))),(some b1,(.cells (tA t A c) 46 (0,0))),en165] hc172;have hr168:=hr168.mono hc172.le;refine Lm rfl ha fun a ha=>?_;refine lin rfl (ae (v:=(tv T_ A172 c172)) ha rfl rfl rfl fun a ha=>?_);refine lin rfl (ae (v:=(iV 0)) ha rfl rfl rfl fun a ha=>?_);refine lin rfl (aC (cs:=aZ) T46 hS ha rfl rfl fun b174 a w hS ha=>?_);refine lin rfl (ao (cs':=(tA T_ A172 c172)) T46 hS (i:=0) rfl ha rfl rfl rfl rfl rfl rfl fun a w hS ha=>?_);refine Ls rfl ha fun a ha=>?_;refine wpList_nil (aa (wp_seq (wp_seq (ab (Lm rfl ha fun a ha=>?_)))));refine lin rfl (aX (i:=0) (j:=0) ha rfl rfl rfl fun a ha=>?_);refine Lm rfl ha fun a ha=>?_;refine ac rfl ha rfl rfl rfl (av ha rfl rfl fun a ha=>?_);refine ac rfl ha rfl rfl rfl (aX (i:=0) (j:=0) ha rfl rfl rfl fun a ha=>?_);refine lin rfl (aj ha rfl rfl rfl fun a ha=>?_);refine Lm rfl ha fun a ha=>?_;refine ac rfl ha rfl rfl rfl (am (vs:=(tL T_ A168 c168)) T46 rfl ha rfl (hS.blkL 1 rfl) rfl (ag rfl) rfl fun a ha=>?_);refine ac rfl ha rfl rfl rfl (am (vs:=(tL T_ A172 c172)) T46 rfl ha rfl (hS.blkL 0 rfl) rfl (ag rfl) rfl fun a ha=>?_);have hk176:=bP (ta:=T_) (tb:=T_) hS.inv.nil hr168 hr172;rw [show eqT T_ T_=true from (ck _ _).2 rfl] at hk176;refine ac rfl ha rfl rfl rfl (aq func22 rfl rfl (ha.evs rfl) ha rfl (hk176) ?_);rintro e w ⟨rfl,hc⟩;refine⟨_,rfl,fun a ha=>?_⟩;have hS:=hS.call hc;refine ac rfl ha rfl rfl rfl (aJ ha rfl rfl fun a ha=>?_);refine lin rfl (aj ha rfl rfl rfl fun a ha=>?_);refine wpList_nil (aa (ai ha rfl (wp_skip (aa (wp_seq (wp_seq (ab (Lm rfl ha fun a ha=>?_))))))));refine lin rfl (am (vs:= [(iV 4),(iV 1),(.string (⟨#[]⟩)),(.bool true)]) T34 rfl ha rfl (hS.blkL 2 rfl) rfl (ag rfl) rfl fun a ha=>?_);have hk178:=da (hS.tail [(some b174,(.cells (tA T_ A172 c172) 46 (0,0))),(some b170,(.cells (tA T_ A168 c168) 46 (0,0))),(some b114,(.cells #[(iV 4),(iV 1),(.string (⟨#[]⟩)),(.bool true)] 34 (0,0))),en_0,en28,en23,en22,(some b20,(.cells #[(iV 4),(iV 1),(.string (⟨#[]⟩)),(.bool true)] 34 (0,0))),(some b15,(.cells #[(iV 4),(iV 0),(.string (⟨#[]⟩)),(.bool true)] 34 (0,0))),(some b1,(.cells (tA t A c) 46 (0,0))),en165]) hK165 (x:=(Wd.mk 4 1 ⟨#[]⟩ true));rw [r3_] at hk178;dsimp only at hk178;refine lin rfl (aq func40 rfl rfl (ha.evs rfl) ha rfl (hk178) ?_);rintro e w ⟨rfl,hc177⟩;refine⟨_,rfl,fun a ha=>?_⟩;have hS:=hS.frameR [(some b174,(.cells (tA T_ A172 c172) 46 (0,0))),(some b170,(.cells (tA T_ A168 c168) 46 (0,0))),(some b114,(.cells #[(iV 4),(iV 1),(.string (⟨#[]⟩)),(.bool true)] 34 (0,0))),en_0,en28,en23,en22,(some b20,(.cells #[(iV 4),(iV 1),(.string (⟨#[]⟩)),(.bool true)] 34 (0,0))),(some b15,(.cells #[(iV 4),(iV 0),(.string (⟨#[]⟩)),(.bool true)] 34 (0,0))),(some b1,(.cells (tA t A c) 46 (0,0))),en165] hc177;refine Lm rfl ha fun a ha=>?_;refine lin rfl (ae (v:=(.agg #[(iV 4),(iV 1),(.string (⟨#[]⟩)),(.bool true)])) ha rfl rfl rfl fun a ha=>?_);refine lin rfl (ae (v:=(iV 0)) ha rfl rfl rfl fun a ha=>?_);refine lin rfl (aC (cs:= #[(iV 0),(iV 0),(.string (⟨#[]⟩)),(.bool false)]) T34 hS ha rfl rfl fun b179 a w hS ha=>?_);refine lin rfl (ao (cs':= #[(iV 4),(iV 1),(.string (⟨#[]⟩)),(.bool true)]) T34 hS (i:=0) rfl ha rfl rfl rfl rfl rfl rfl fun a w hS ha=>?_);refine Ls rfl ha fun a ha=>?_;refine wpList_nil (aa (wp_seq (ab (Lm rfl ha fun a ha=>?_))));refine lin rfl (aP (i:=0) (j:=0) ha rfl rfl rfl fun a ha=>?_);refine Lm rfl ha fun a ha=>?_;refine ac rfl ha rfl rfl rfl (ad (f:=0) (o2:=0) T34 T3 rfl rfl rfl rfl ha rfl rfl fun a ha=>?_);refine ac rfl ha rfl rfl rfl (af (v:=(iV 4)) T3 rfl ha rfl (hS.blkL 0 rfl) rfl rfl fun a ha=>?_);refine ac rfl ha rfl rfl rfl (aP (i:=4) (j:=4) ha rfl rfl rfl fun a ha=>?_);refine lin rfl (an ha rfl rfl rfl fun a ha=>?_);refine wpList_nil (aa (ap ha rfl (wp_seq (wp_seq (ab (Lm rfl ha fun a ha=>?_))))));refine lin rfl (aG T22.und ha rfl rfl fun a ha=>?_);refine Lm rfl ha fun a ha=>?_;refine wpList_nil (aa (wp_block (aO (fun nn_ a w=> ∃(H181: PHeap),∃(k2: Nat),∃(xs_1: List Int),∃(en_1: Ent),∃(A_1: Option Addr),∃(c_1: Nat),Le H172 H181∧nn_=hk0_.length - k2∧Has [] a 202 [(9,(pB p9)),(12,(pB b20)),(15,(.slice A_1 xs_1.length c_1)),(20,(.slice A165 (([]: List Int).length) c165)),(166,(.slice A22 hk0_.length c22)),(167,(iV ((hk0_.length: Nat): Int))),(168,(iV ((k2: Nat): Int)))]∧Step w0 H [] w H181 ((some b179,(.cells #[(iV 4),(iV 1),(.string (⟨#[]⟩)),(.bool true)] 34 (0,0)))::(some b174,(.cells (tA T_ A172 c172) 46 (0,0)))::(some b170,(.cells (tA T_ A168 c168) 46 (0,0)))::(some b114,(.cells #[(iV 4),(iV 1),(.string (⟨#[]⟩)),(.bool true)] 34 (0,0)))::en_0::en28::en_1::en22::(some b20,(.cells #[(iV 4),(iV 1),(.string (⟨#[]⟩)),(.bool true)] 34 (0,0)))::(some b15,(.cells #[(iV 4),(iV 0),(.string (⟨#[]⟩)),(.bool true)] 34 (0,0)))::(some b1,(.cells (tA t A c) 46 (0,0)))::en165::L165)∧(Row (.slice A_1 xs_1.length c_1) en_1 3 1 xs_1.length (ints xs_1))∧(addG xs_1 (hk0_.drop k2)=addG hk1_ hk0_)∧(xs_1.length≤20+k2)∧(k2≤hk0_.length)) _ ⟨H172,0,hk1_,en23,A23,c23,Le.refl _,rfl,ha.pk rfl,hS,(by simpa using hR23),rfl,(by omega),(by omega)⟩ ?_)));intro n181 a w hh;obtain⟨H181,k2,xs_1,en_1,A_1,c_1,hle181,hn181,ha,hS,hR_1,hag,hal,hk2⟩:=hh;refine wp_seq (ab (lin rfl (aQ (i:=((k2: Nat): Int)) (j:=((hk0_.length: Nat): Int)) ha rfl rfl rfl fun a ha=>?_)));refine wpList_nil (aa (wp_seq (ak (t:=169) ha rfl (fun h182 ha=>?_) (fun h182 ha=>?_))))
         ·refine ap ha rfl (wp_skip (aa (wp_seq (wp_block (wp_seq (ab ?_))))));obtain⟨b183,cap183,cur183,hv183,he183,hc183, -⟩:=hR22.at_ (j:=k2) (by omega);have hA183:(A22: Option Addr)=some ⟨b183,0,none⟩:=by injection hv183
          obtain⟨x183,hx183⟩: ∃ x,hk0_[k2]? =some x:=⟨_,List.getElem?_eq_getElem (by first | omega |(simp;omega))⟩;have hc183:=hc183 0 (iV x183) (by omega) (bw hx183);refine lin rfl (aA (b:=b183) (o:=0) (j:=k2) T22.und T3 hA183 ha rfl rfl (by omega) (by omega) rfl fun a ha=>?_);refine lin rfl (af (v:=(iV x183)) T3 rfl ha rfl (hS.blkL 7 (b:=b183) (o:=.cells cur183 3 (0,0)) (by rw [← he183];rfl)) hc183 rfl fun a ha=>?_);refine Ls rfl ha fun a ha=>?_;refine wpList_nil (aa (wp_seq (ab (Lm rfl ha fun a ha=>?_))));refine Lm rfl ha fun a ha=>?_;refine lin rfl (aq func41 rfl rfl (ha.evs rfl) ha rfl (bM hS.inv.nil (RdI.of_row hS.inv hR_1 6 rfl (by first | omega | simp |(simp;omega)))) ?_);rintro e w ⟨rfl,hc⟩;refine⟨_,rfl,fun a ha=>?_⟩;have hS:=hS.call hc;refine lin rfl (aJ ha rfl rfl fun a ha=>?_);refine wpList_nil (aa (au (t:=175) ha rfl (fun h184 ha=>?_) (fun h184 ha=>?_)))
          ·refine ap ha rfl (ab (Lm rfl ha fun a ha=>?_));refine Lm rfl ha fun a ha=>?_;refine lin rfl (bg (vs:= [(0,(iV x183))]) (cells:= [(iV x183)]) T22.und T3 hS ha (ha.evp rfl) rfl rfl rfl rfl fun b185 a w hS ha=>?_);obtain⟨H185,hS,hle185,hb185⟩:=hS.give;have hr185: RowI H185 (some ⟨b185,0,none⟩) 1 [x183]:=RowI.of_lit [x183] hb185 (by simp) rfl;have hS:=hS.front 6 rfl;refine lin rfl (aV (news:=(ints [x183])) (xs:=(ints xs_1)) T22.und T3 rfl rfl hS hR_1 ha rfl rfl rfl (fun _=>⟨b185,0,_,_,_,rfl,hS.blkH hb185,ag rfl⟩) (bE rfl) (by omega) rfl rfl fun v186 en186 a w hR186 hS ha=>?_);rw [← List.map_append] at hR186;obtain⟨A186,c186,rfl⟩:=hR186.slice;have hn_:(xs_1.length+1)=(xs_1++ [x183]).length:=by have h_:=hR186.1;simp only [List.length_map] at h_;omega
           rw [show Value.slice A186 (xs_1.length+1) c186=Value.slice A186 (xs_1++ [x183]).length c186 from by rw [hn_]] at ha;rw [hn_] at hR186;refine Ls rfl ha fun a ha=>?_;refine wpList_nil (ar (aa (ab (lin rfl (aF (i:=((k2: Nat): Int)) (j:=1) ha rfl rfl rfl (by omega) fun a ha=>?_)))));refine Lm rfl ha fun a ha=>?_;refine wpList_nil (aa (?_));have hS:=hS.front 11 rfl;have hS:=hS.front 11 rfl;have hS:=hS.front 11 rfl;have hS:=hS.front 11 rfl;have hS:=hS.front 11 rfl;have hS:=hS.front 5 rfl;have hS:=hS.front 11 rfl;have hS:=hS.front 11 rfl;have hS:=hS.front 11 rfl;have hS:=hS.front 11 rfl;have hS:=hS.front 11 rfl;have hS:=hS.front 11 rfl;exact⟨hk0_.length - (k2+1),by omega,H185,(k2+1),(xs_1++ [x183]),en186,A186,c186,(hle181.trans (hle185)),rfl,ha.pk rfl,hS,hR186,(by
             rw [← hag,br hx183]
             congr 1
             have hq_:=h184;rw [if_neg (fun e_=>by rw [e_] at hq_;cases hq_)]),(by first | omega |(simp;omega)),(by omega)⟩
          ·refine ai ha rfl (wp_skip (ar (aa (ab (lin rfl (aF (i:=((k2: Nat): Int)) (j:=1) ha rfl rfl rfl (by omega) fun a ha=>?_))))));refine Lm rfl ha fun a ha=>?_;refine wpList_nil (aa (?_));exact⟨hk0_.length - (k2+1),by omega,H181,(k2+1),xs_1,en_1,A_1,c_1,(hle181),rfl,ha.pk rfl,hS,hR_1,(by
             rw [← hag,br hx183]
             congr 1
             have hq_:=h184;rw [if_pos (by cases h_: xs_1.contains x183 with
              | true=>rfl
              | false=>rw [h_] at hq_;cases hq_)]),(by first | omega |(simp;omega)),(by omega)⟩
         ·refine ai ha rfl (wp_exit (aw (aw (aH (aa (wp_seq ?_))))));have hal2_:=cY hk0_ hk1_;refine ab (Lm rfl ha fun a ha=>?_);refine lin rfl (am (vs:= [(iV 4),(iV 1),(.string (⟨#[]⟩)),(.bool true)]) T34 rfl ha rfl (hS.blkL 8 rfl) rfl (ag rfl) rfl fun a ha=>?_);have hk188:=eH (hS.tail [(some b179,(.cells #[(iV 4),(iV 1),(.string (⟨#[]⟩)),(.bool true)] 34 (0,0))),(some b174,(.cells (tA T_ A172 c172) 46 (0,0))),(some b170,(.cells (tA T_ A168 c168) 46 (0,0))),(some b114,(.cells #[(iV 4),(iV 1),(.string (⟨#[]⟩)),(.bool true)] 34 (0,0))),en_0,en28,en_1,en22,(some b20,(.cells #[(iV 4),(iV 1),(.string (⟨#[]⟩)),(.bool true)] 34 (0,0))),(some b15,(.cells #[(iV 4),(iV 0),(.string (⟨#[]⟩)),(.bool true)] 34 (0,0))),(some b1,(.cells (tA t A c) 46 (0,0))),en165]) hK165 (v:=(Wd.mk 4 1 ⟨#[]⟩ true));rw [hh_] at hk188;dsimp only at hk188;refine lin rfl (aq func42 rfl rfl (ha.evs rfl) ha rfl (hk188) ?_);rintro e w ⟨A187,c187,en187,rfl,hR187,hc187⟩;refine⟨_,rfl,fun a ha=>?_⟩;have hS:=Step.perm (hS.frameR [(some b179,(.cells #[(iV 4),(iV 1),(.string (⟨#[]⟩)),(.bool true)] 34 (0,0))),(some b174,(.cells (tA T_ A172 c172) 46 (0,0))),(some b170,(.cells (tA T_ A168 c168) 46 (0,0))),(some b114,(.cells #[(iV 4),(iV 1),(.string (⟨#[]⟩)),(.bool true)] 34 (0,0))),en_0,en28,en_1,en22,(some b20,(.cells #[(iV 4),(iV 1),(.string (⟨#[]⟩)),(.bool true)] 34 (0,0))),(some b15,(.cells #[(iV 4),(iV 0),(.string (⟨#[]⟩)),(.bool true)] 34 (0,0))),(some b1,(.cells (tA t A c) 46 (0,0))),en165] hc187) List.perm_middle;refine Lm rfl ha fun a ha=>?_;refine lin rfl (ae (v:=(.slice A187 ((addG hk1_ hk0_).length) c187)) ha rfl rfl rfl fun a ha=>?_);refine lin rfl (ae (v:=(iV 0)) ha rfl rfl rfl fun a ha=>?_);refine Ls rfl ha fun a ha=>?_;refine Ls rfl ha fun a ha=>?_;refine wpList_nil (aa (wp_seq (ab (Lm rfl ha fun a ha=>?_))));refine lin rfl (aG T22.und ha rfl rfl fun a ha=>?_);refine lin rfl (aP (i:=((([]: List Int).length: Nat): Int)) (j:=0) ha rfl rfl rfl fun a ha=>?_);rw [decide_eq_true (by rfl)] at ha;refine Lm rfl ha fun a ha=>?_;refine ac rfl ha rfl rfl rfl (av ha rfl rfl fun a ha=>?_);refine ac rfl ha rfl rfl rfl (aP (i:=0) (j:=0) ha rfl rfl rfl fun a ha=>?_);refine lin rfl (an ha rfl rfl rfl fun a ha=>?_);refine Lm rfl ha fun a ha=>?_;refine ac rfl ha rfl rfl rfl (av ha rfl rfl fun a ha=>?_);refine ac rfl ha rfl rfl rfl (av ha rfl rfl fun a ha=>?_);have hk189:=cI hS.inv.nil (RdI.of_row hS.inv hR187 0 rfl (by first | omega | simp |(simp;omega))) (RdI.of_row hS.inv hR_1 7 rfl (by first | omega | simp |(simp;omega)));rw [show decide ((addG hk1_ hk0_)=xs_1)=true from decide_eq_true (by rw [← hag,dL (by omega)])] at hk189;refine ac rfl ha rfl rfl rfl (aq func43 rfl rfl (ha.evs rfl) ha rfl (hk189) ?_);rintro e w ⟨rfl,hc⟩;refine⟨_,rfl,fun a ha=>?_⟩;have hS:=hS.call hc;refine lin rfl (an ha rfl rfl rfl fun a ha=>?_);refine Ls rfl ha fun a ha=>?_;refine wpList_nil (aa (wp_ret (ah (ret1 rfl ha rfl ?_))));exact⟨_,rfl,hS.drop_all⟩
        ·exact absurd rfl ht4_
end Go.Vk.Try
namespace Go.Vk.Try
open Go.ChangeShapes Go.WideShapes Go.ChangeAt Go.RowKit Go.Deep
theorem cells3: Go.Proofs.Try.prog.cellsOf 3=1:=by kernel_rfl
section
variable {H: Type} {enc: TypeId × Value→H} {W: World}
theorem eO {a: Addr} {v: Value} (h: W.cell? a=some v): ∃(cs: Array Value) (e: Nat) (fz: Nat × Nat),a=⟨a.block,a.off,none⟩∧W.heap[a.block]? =some (.cells cs e fz)∧cs[a.off]? =some v:=by
 have hs:=World.cell?_spot h;unfold World.cell? at h;rw [hs] at h
 cases hb: W.heap[a.block]? with
 | none=>rw [hb] at h;simp at h
 | some o =>
  rw [hb] at h
  cases o with
  | cells cs e fz =>
   refine⟨cs,e,fz,?_,rfl,by simpa using h⟩
   cases a;simp at hs;simp [hs]
  | _=>simp at h
theorem bR (a: Addr) (k: Nat):(a.add k).block=a.block:=by unfold Addr.add;split <;> rfl
theorem eL (a: Addr) (k: Nat):(a.add k).off=a.off+k:=by
 unfold Addr.add
 split
 ·omega
 ·rfl
theorem bulk_mem {d: DataW H} {l: List (DataW H)} (h: d ∈ l): Go.Proofs.Ythblpljakpecdaa.Rows.uptoBulk d≤Go.Proofs.Ythblpljakpecdaa.Rows.uptoBulkAll l:=by
 induction l with
 | nil=>cases h
 | cons x r ih =>
  simp only [Go.Proofs.Ythblpljakpecdaa.Rows.uptoBulkAll]
  rcases List.mem_cons.1 h with e | e
  ·subst e;omega
  ·have:=ih e;omega
theorem bulk_len (l: List (DataW H)): l.length≤Go.Proofs.Ythblpljakpecdaa.Rows.uptoBulkAll l:=by
 induction l with
 | nil=>simp
 | cons x r ih =>
  have h1: 1≤Go.Proofs.Ythblpljakpecdaa.Rows.uptoBulk x:=by
   cases x with
   | lit l=>cases l <;> simp [Go.Proofs.Ythblpljakpecdaa.Rows.uptoBulk]
   | _=>simp [Go.Proofs.Ythblpljakpecdaa.Rows.uptoBulk]
  simp only [Go.Proofs.Ythblpljakpecdaa.Rows.uptoBulkAll,List.length_cons];omega
theorem bulk_part {d y: DataW H} (h: y ∈(match d with | .agg ps=>ps | _=> [])): Go.Proofs.Ythblpljakpecdaa.Rows.uptoBulk y < Go.Proofs.Ythblpljakpecdaa.Rows.uptoBulk d:=by
 cases d with
 | agg ps=>change y ∈ ps at h;have:=bulk_mem h;simp only [Go.Proofs.Ythblpljakpecdaa.Rows.uptoBulk];omega
 | _=>cases h
theorem open_ints {n: Nat} {v: Value} {y: DataW H × List MemPlace} (hB: Go.Proofs.Ythblpljakpecdaa.Rows.uptoBulk y.1≤1048576) (h: DataW.trod enc prog W 0 (fun _=>true) true n 22 [v]=some y) :
  ∃(A: Option Addr) (xs: List Int) (c: Nat),v=.slice A xs.length c∧RowI (fun b=>W.heap[b]?) A c xs:=by
 rcases open_slice T22.und h with ⟨hc,_⟩ |⟨a,len,cap,m,n',D,Pl,hc,_,hl,hm,hmm,hx,hall⟩
 ·simp only [List.cons.injEq,and_true] at hc;exact⟨none, [],0,hc,Nat.le_refl _,by simp,0,0,0,#[],(0,0),fun hn=>absurd rfl hn,fun j u hj=>by simp at hj⟩
 ·simp only [List.cons.injEq,and_true] at hc;simp only [if_true] at hmm;subst hmm hx;rw [cells3] at hall;simp only [Go.Proofs.Ythblpljakpecdaa.Rows.uptoBulk] at hB;have hlen: len≤1048576:=by have:=bulk_len ((List.range len).map D);simp at this;omega
  have key: ∀ i,i < len→∃ x: Int,W.cells? 0 (a.add (i * 1)) 1=some [.int .i64 x]:=by
   intro i hi;obtain⟨cs',h1,h2⟩:=hall i (by omega);obtain⟨x,rfl,_⟩:=DataW.trod_int T3.und h2;exact⟨x,h1⟩
  classical
  let T: Nat→Int:=fun i=>if hi: i < len then (key i hi).choose else 0
  have hsp: ∀ i,i < len→W.cells? 0 (a.add (i * 1)) 1=some [.int .i64 (T i)]:=by
   intro i hi;simp only [T,dif_pos hi];exact(key i hi).choose_spec
  refine⟨some a,(List.range len).map T,m,by rw [hc];simp,?_⟩
  by_cases h0: len=0
  ·subst h0;exact⟨by simp,by simp,0,0,0,#[],(0,0),fun hn=>absurd rfl hn,fun j u hj=>by simp at hj⟩
  ·obtain⟨_,_,hcell⟩:=World.cells?_some (hsp 0 (by omega));obtain⟨cs,e,fz,ha,hb,_⟩:=eO (hcell 0 (by omega));have hb': W.heap[a.block]? =some (.cells cs e fz):=by rw [bR,bR] at hb;exact hb
   have ha': a=⟨a.block,a.off,none⟩:=by
    have:=World.cell?_spot (hcell 0 (by omega))
    cases a;simp [Addr.add] at this;simp [this]
   refine⟨by simp;omega,by simp;omega,a.block,a.off,e,cs,fz,fun _=>⟨by rw [← ha'],hb'⟩,fun j u hj=>?_⟩;rw [List.getElem?_map,List.getElem?_map] at hj
   by_cases hlt: j < len
   ·rw [List.getElem?_range hlt] at hj;obtain⟨_,_,hcell⟩:=World.cells?_some (hsp j hlt);have h8:=hcell 0 (by omega);obtain⟨cs2,e2,fz2,_,hb2,hu2⟩:=eO h8;have hb3: W.heap[a.block]? =some (.cells cs2 e2 fz2):=by rw [bR,bR] at hb2;exact hb2
    rw [hb'] at hb3;injection hb3 with hb3
    injection hb3 with hb3
    subst hb3;rw [eL,eL,Nat.mul_one,Nat.add_zero] at hu2;rw [hu2];exact hj
   ·rw [List.getElem?_eq_none (by simpa using Nat.le_of_not_lt hlt)] at hj;cases hj
theorem inv_all (W: World): Inv W (fun b=>W.heap[b]?) []:=⟨fun e he=>(by cases he),List.Pairwise.nil,fun k o h=>⟨h,cj⟩⟩
theorem below_of {w: World} {H: PHeap} {H': PHeap} {w': World} (h: Step w H [] w' H' []): Below w.heap.size w w':=⟨h.os,h.tape,h.output,h.size,fun k hk=>h.blk k hk cj⟩
end
end Go.Vk.Try
namespace Go.Vk.Try
open Go.ChangeShapes Go.WideShapes Go.ChangeAt Go.RowKit Go.Deep Go.Proofs.Ythblpljakpecdaa
theorem own: ownKnob Go.Proofs.Try.prog.godebug=none:=by kernel_rfl
theorem laidOut: laidOutB prog=true:=by kernel_rfl
section
variable {H: Type} {enc: TypeId × Value→H} {W: World}
theorem trodAll_stays {W': World} (hb: Below W.heap.size W W') (sp: Nat→Bool): ∀(ts: List TypeId) (vs: List Value) (ds: List (DataW H)) (ps: List MemPlace),(∀ t ∈ ts,Go.Proofs.Try.prog.readableRec t=true∧t < Go.Proofs.Try.prog.types.size)→DataW.TrodAll enc prog W 0 (fun _=>true) true ts vs ds ps→(∀ x ∈ ps,x.block < W.heap.size)→(∀ x ∈ ps,sp x.block=true)→
  DataW.TrodAll enc prog W' 0 sp true ts vs ds ps
 | [], [], [],ps,_,h,_,_=>h
 | [],_::_,_,_,_,h,_,_=>h.elim
 | [], [],_::_,_,_,h,_,_=>h.elim
 | _::_, [],_,_,_,h,_,_=>h.elim
 | _::_,_::_, [],_,_,h,_,_=>h.elim
 | t::ts,v::vs,d::ds,ps,ht,h,hl,hs=>by
  obtain⟨p,q,h1,h2,rfl⟩:=h;refine⟨p,q,WideElems.Trod_stays laidOut (ht t List.mem_cons_self).1 (ht t List.mem_cons_self).2 h1 (fun x hx=>hb.same (hl x (List.mem_append_left _ hx))) (fun x hx=>hs x (List.mem_append_left _ hx)),?_,rfl⟩;exact trodAll_stays hb sp ts vs ds q (fun u hu=>ht u (List.mem_cons_of_mem _ hu)) h2 (fun x hx=>hl x (List.mem_append_right _ hx)) (fun x hx=>hs x (List.mem_append_right _ hx))
theorem post_old {f: Func} {s: ChangeSpec} {W': World} {args: Array Value} {ds gs: List (DataW H)} {before: List MemPlace} {l: DataW H} {r: Value}
  (hW: DataW.Whole enc prog f.params.toList s.vars false W args.toList ds gs before) (hvs: s.vars= []) (hds:(s.fn H (ds++gs)).args=ds) (hvr:(s.fn H (ds++gs)).vars= [])
  (hres: ∀(b: Nat) (sp: Nat→Bool) (hd: Bool),DataW.TrodAll enc prog W' b sp hd f.resultTypes.toList (r.resultList f.resultTypes.size) (s.fn H (ds++gs)).results [])
  (hb: Below W.heap.size W W') (hts: ∀ t ∈ f.params.toList,Go.Proofs.Try.prog.readableRec t=true∧t < Go.Proofs.Try.prog.types.size)
  (hok: ∀(j: Nat) (t: TypeId) (u: Value),f.resultTypes[j]? =some t→(r.resultList f.resultTypes.size)[j]? =some u→Value.okWide prog W' .any 0 t u) :
  s.post enc prog f false true false false W args r W':=by
 have hlt:=hW.lt;have hW0:=hW;obtain⟨p,q,hA,hV,rfl,hz,hn⟩:=hW0;rw [hvs] at hV;have hargs: ∀ sp: Nat→Bool,(∀ x ∈ p++q,sp x.block=true)→DataW.TrodAll enc prog W' 0 sp true f.params.toList args.toList (s.fn H (ds++gs)).args p:=fun sp hs=>by
  rw [hds];exact trodAll_stays hb sp _ _ _ _ hts hA (fun x hx=>hlt x (List.mem_append_left _ hx)) (fun x hx=>hs x (List.mem_append_left _ hx))
 obtain⟨rfl,rfl⟩:=trodVars_none hV;have hvars: ∀ sp: Nat→Bool,DataW.TrodVars enc prog W' sp s.vars (s.fn H (ds++ [])).vars []:=fun sp=>by rw [hvs,hvr];exact rfl
 have hold: ∀ x ∈ p++ [],(fun b=>decide (b < W.heap.size)) x.block=true:=fun x hx=>by simpa using hlt x hx
 refine⟨ds, [],p++ [], [],p, [],hW,hres _ _ _,hargs _ hold,hvars _,World.keptBut_mono (fun x hx=>⟨hx,.inr (by simpa using hx)⟩) (hb.frame _),fun _=>?_⟩;refine⟨hok,_,_,([]++p)++ [],⟨[]++p, [],trodAll_append (hargs _ (fun _ _=>rfl)) (hres _ _ _),hvars _,rfl,?_,?_⟩,?_⟩
 ·intro b off hp;have hp': MemPlace.cell b off ∈ p++ []:=by simpa using hp
  have h1:=hz b off hp';have h2:=hb.block b (hlt _ hp');unfold World.frozen? at h1 ⊢;rw [h2];exact h1
 ·intro ha;cases ha
 ·intro x hx _;simpa using hx
theorem open_intsV {v: Value} {d: DataW H} {ps: List MemPlace} (hB: Rows.uptoBulk d≤1048576) (hv: Value.okWide prog W .any 0 22 v) (h: DataW.Trod enc prog W 0 (fun _=>true) true 22 v d ps) :
  ∃(A: Option Addr) (xs: List Int) (c: Nat),v=.slice A xs.length c∧RowI (fun b=>W.heap[b]?) A c xs:=by
 obtain⟨n,h⟩:=h;unfold Value.okWide at hv;rw [T22.und] at hv;unfold Cell.okWide at hv
 cases v with
 | slice a l c=>exact open_ints hB h
 | _=>first |(exfalso;simp [Cell.ok,T22.und] at hv;done) |(obtain⟨A,xs,c,h1,h2⟩:=open_ints hB h;cases h1)
end
end Go.Vk.Try
namespace Go.Vk.Try
open Go.ChangeShapes Go.WideShapes Go.ChangeAt Go.RowKit Go.Deep Go.Proofs.Ythblpljakpecdaa
theorem cells9: Go.Proofs.Try.prog.cellsOf 9=1:=by kernel_rfl
theorem cells22: Go.Proofs.Try.prog.cellsOf 44=1:=by kernel_rfl
theorem cells26: Go.Proofs.Try.prog.cellsOf 46=4:=by kernel_rfl
section
variable {H: Type} {enc: TypeId × Value→H} {W: World}
theorem open_tm0B {n: Nat} {cs: List Value} {x: DataW H × List MemPlace} (h: DataW.trod enc prog W 0 (fun _=>true) true n 46 cs=some x) :
  ∃(k i: Int) (s: ByteArray) (v: Value) (m: Nat) (y: DataW H × List MemPlace),cs= [.int .i64 k,.int .i64 i,.string s,v]∧DataW.trod enc prog W 0 (fun _=>true) true m 44 [v]=some y∧y.1 ∈(match x.1 with | .agg ps=>ps | _=> [])∧s.size+1+Go.Proofs.Ythblpljakpecdaa.Rows.uptoBulk y.1 < Go.Proofs.Ythblpljakpecdaa.Rows.uptoBulk x.1:=by
 obtain⟨xs,m,_,rfl,hl,hlen,hf⟩:=DataW.trod_struct T46.und h;rw [cells26] at hl
 match cs,hl with
 | [c0,c1,c2,c3],_ =>
  match xs,hlen with
  | [y0,y1,y2,y3],_ =>
   have h0:=hf 0 _ J;have h1:=hf 1 _ J;have h2:=hf 2 _ J;have h3:=hf 3 _ J;simp [cells3,cells9,cells22] at h0 h1 h2 h3;obtain⟨k,e0,_⟩:=DataW.trod_int T3.und h0;obtain⟨i,e1,_⟩:=DataW.trod_int T3.und h1;obtain⟨s,e2,e5,_⟩:=DataW.trod_string T9.und h2;simp only [List.cons.injEq,and_true] at e0 e1 e2;subst e0 e1 e2;have e6: y2.1=.lit (.string s.data.toList):=congrArg Prod.fst e5;refine⟨k,i,s,c3,m,y3,rfl,h3,by simp,?_⟩;simp only [List.map_cons,List.map_nil,Go.Proofs.Ythblpljakpecdaa.Rows.uptoBulk,Go.Proofs.Ythblpljakpecdaa.Rows.uptoBulkAll,e6];have: s.data.toList.length=s.size:=by rw [Array.length_toList];rfl
   omega
theorem open_rowB: ∀(K: Nat) {n: Nat} {v: Value} {y: DataW H × List MemPlace},Go.Proofs.Ythblpljakpecdaa.Rows.uptoBulk y.1≤K→Go.Proofs.Ythblpljakpecdaa.Rows.uptoBulk y.1≤1048576→DataW.trod enc prog W 0 (fun _=>true) true n 44 [v]=some y→
  ∃(A: Option Addr) (ts: List Tm) (c: Nat),v=.slice A ts.length c∧RowT (fun b=>W.heap[b]?) A c ts∧ts.length≤1048576∧Tm.szL ts≤Go.Proofs.Ythblpljakpecdaa.Rows.uptoBulk y.1∧strBL ts=true:=by
 intro K
 induction K with
 | zero =>
  intro n v y h;have: 1≤Go.Proofs.Ythblpljakpecdaa.Rows.uptoBulk y.1:=by
   cases y.1 with
   | lit l=>cases l <;> simp [Go.Proofs.Ythblpljakpecdaa.Rows.uptoBulk]
   | _=>simp [Go.Proofs.Ythblpljakpecdaa.Rows.uptoBulk]
  omega
 | succ K ih =>
  intro n v y hK hB h
  rcases open_slice T44.und h with ⟨hc,_⟩ |⟨a,len,cap,m,n',D,Pl,hc,_,hl,hm,hmm,hx,hall⟩
  ·simp only [List.cons.injEq,and_true] at hc;exact⟨none, [],0,hc,RowT.nil _,by simp,Nat.zero_le _,rfl⟩
  ·simp only [List.cons.injEq,and_true] at hc;simp only [if_true] at hmm;subst hmm hx;rw [cells26] at hall;simp only [Go.Proofs.Ythblpljakpecdaa.Rows.uptoBulk] at hK hB;have hlen: len≤1048576:=by have:=bulk_len ((List.range len).map D);simp at this;omega
   have key: ∀ i,i < len→∃(t: Tm) (A: Option Addr) (c: Nat) (cs': List Value),cs'=tcells t A c∧W.cells? 0 (a.add (i * 4)) 4=some cs'∧RowT (fun b=>W.heap[b]?) A c t.l∧t.sz≤Go.Proofs.Ythblpljakpecdaa.Rows.uptoBulk (D i)∧strB t=true:=by
    intro i hi;obtain⟨cs',h1,h2⟩:=hall i (by omega);obtain⟨k,j,s,w,m',z,rfl,h3,h4,h9⟩:=open_tm0B h2;have h9: s.size+1+Go.Proofs.Ythblpljakpecdaa.Rows.uptoBulk z.1 < Go.Proofs.Ythblpljakpecdaa.Rows.uptoBulk (D i):=h9;have h5: Go.Proofs.Ythblpljakpecdaa.Rows.uptoBulk z.1 < Go.Proofs.Ythblpljakpecdaa.Rows.uptoBulk (D i):=bulk_part h4;have h6:=bulk_mem (show D i ∈(List.range len).map D from List.mem_map.2 ⟨i,List.mem_range.2 hi,rfl⟩);obtain⟨A,ts,c,rfl,h7,_,h10,h11⟩:=ih (by omega) (by omega) h3;refine⟨.mk k j s ts,A,c,_,rfl,h1,h7,?_,?_⟩
    ·rw [Tm.sz];omega
    ·rw [strB,h11,Bool.and_true];exact decide_eq_true (by omega)
   classical
   let T: Nat→Tm:=fun i=>if hi: i < len then (key i hi).choose else Tm.zero
   let Af: Nat→Option Addr:=fun i=>if hi: i < len then (key i hi).choose_spec.choose else none
   let cf: Nat→Nat:=fun i=>if hi: i < len then (key i hi).choose_spec.choose_spec.choose else 0
   have hsp: ∀ i,i < len→W.cells? 0 (a.add (i * 4)) 4=some (tcells (T i) (Af i) (cf i))∧RowT (fun b=>W.heap[b]?) (Af i) (cf i) (T i).l∧(T i).sz≤Go.Proofs.Ythblpljakpecdaa.Rows.uptoBulk (D i)∧strB (T i)=true:=by
    intro i hi;obtain⟨cs',e1,e2,e3⟩:=(key i hi).choose_spec.choose_spec.choose_spec;simp only [T,Af,cf,dif_pos hi];exact⟨e1 ▸ e2,e3⟩
   have hget: ∀(j: Nat) (t: Tm),((List.range len).map T)[j]? =some t→j < len∧t=T j:=by
    intro j t hj;rw [List.getElem?_map] at hj
    by_cases hlt: j < len
    ·rw [List.getElem?_range hlt] at hj;exact⟨hlt,(Option.some.inj hj).symm⟩
    ·rw [List.getElem?_eq_none (by simpa using Nat.le_of_not_lt hlt)] at hj;cases hj
   have hsum: ∀ l: List Nat,(∀ i ∈ l,i < len)→Tm.szL (l.map T)≤Go.Proofs.Ythblpljakpecdaa.Rows.uptoBulkAll (l.map D)∧strBL (l.map T)=true:=by
    intro l
    induction l with
    | nil=>intro _;exact⟨Nat.le_refl _,rfl⟩
    | cons i l ihl =>
     intro hl;have h1:=hsp i (hl i List.mem_cons_self);have h2:=ihl fun q hq=>hl q (List.mem_cons_of_mem _ hq);simp only [List.map_cons,Tm.szL,Go.Proofs.Ythblpljakpecdaa.Rows.uptoBulkAll,strBL,h1.2.2.2,h2.2,Bool.and_self,and_true];have:=h1.2.2.1;omega
   have hsm:=hsum (List.range len) fun i hi=>List.mem_range.1 hi;refine⟨some a,(List.range len).map T,m,by rw [hc];simp,?_,by simp;omega,by simp only [Go.Proofs.Ythblpljakpecdaa.Rows.uptoBulk];omega,hsm.2⟩
   by_cases h0: len=0
   ·subst h0;exact .mk (by simp) (by simp) 0 0 0 #[] (0,0) (fun hn=>absurd J hn) (fun _=>none) (fun _=>0) (fun j t hj=>by simp at hj) (fun j t hj=>by simp at hj)
   ·obtain⟨_,hl4,hcell⟩:=World.cells?_some (hsp 0 (by omega)).1;obtain⟨cs,e,fz,ha,hb,_⟩:=eO (hcell 0 (by omega));have hb': W.heap[a.block]? =some (.cells cs e fz):=by rw [bR,bR] at hb;exact hb
    have ha': a=⟨a.block,a.off,none⟩:=by
     have:=World.cell?_spot (hcell 0 (by omega))
     cases a;simp [Addr.add] at this;simp [this]
    refine .mk (by simp;omega) (by simp;omega) a.block a.off e cs fz (fun _=>⟨by rw [← ha'],hb'⟩) Af cf (fun j t hj i u hu=>?_) (fun j t hj=>?_)
    ·obtain⟨hlt,rfl⟩:=hget j t hj;obtain⟨_,_,hcell⟩:=World.cells?_some (hsp j hlt).1;have hi4: i < 4:=(List.getElem?_eq_some_iff.1 hu).1;have h8:=hcell i hi4;rw [hu] at h8;obtain⟨cs2,e2,fz2,_,hb2,hu2⟩:=eO h8;have hb3: W.heap[a.block]? =some (.cells cs2 e2 fz2):=by rw [bR,bR] at hb2;exact hb2
     rw [hb'] at hb3;injection hb3 with hb3
     injection hb3 with hb3
     subst hb3;rw [eL,eL] at hu2;exact hu2
    ·obtain⟨hlt,rfl⟩:=hget j t hj;exact(hsp j hlt).2.1
theorem open_tmB {v: Value} {d: DataW H} {ps: List MemPlace} (hB: Rows.uptoBulk d≤1048576) (hv: Value.okWide prog W .any 0 46 v) (h: DataW.Trod enc prog W 0 (fun _=>true) true 46 v d ps) :
  ∃(t: Tm) (A: Option Addr) (c: Nat),v=tv t A c∧RowT (fun b=>W.heap[b]?) A c t.l∧t.sz≤1048576∧strB t=true:=by
 unfold Value.okWide at hv;rw [T46.und] at hv;obtain⟨cs,rfl,_⟩:=hv;obtain⟨n,h⟩:=h;obtain⟨k,i,s,w,m,y,hcs,h1,h2,h6⟩:=open_tm0B h;have h3: Rows.uptoBulk y.1 < Rows.uptoBulk d:=bulk_part h2;have h6: s.size+1+Rows.uptoBulk y.1 < Rows.uptoBulk d:=h6;obtain⟨A,ts,c,rfl,h4,_,h7,h8⟩:=open_rowB (Rows.uptoBulk y.1) (Nat.le_refl _) (by omega) h1;refine⟨.mk k i s ts,A,c,?_,h4,?_,?_⟩
 ·have h5: cs.toList= [.int .i64 k,.int .i64 i,.string s,.slice A ts.length c]:=hcs;rw [← Array.toArray_toList (xs:=cs),h5];rfl
 ·rw [Tm.sz];omega
 ·rw [strB,h8,Bool.and_true];exact decide_eq_true (by omega)
theorem open_boolV {v: Value} {d: DataW H} {ps: List MemPlace} (h: DataW.Trod enc prog W 0 (fun _=>true) true 4 v d ps) (hv: Value.okWide prog W .any 0 4 v): ∃ b: Bool,v=.bool b:=by
 unfold Value.okWide at hv;rw [T4.und] at hv;obtain⟨n,h⟩:=h
 cases v with
 | bool b=>exact ⟨b,rfl⟩
 | _=>exfalso;simp [Cell.okWide,Cell.ok,T4.und] at hv
end
end Go.Vk.Try
namespace Go.Vk.Try
open Go.ChangeShapes Go.WideShapes Go.ChangeAt Go.RowKit Go.Deep Go.Proofs.Ythblpljakpecdaa
theorem heapBound_contract (H: Type) (enc: TypeId × Value→H) (W: World) (base: Nat) (args: Array Value) (ds gs: List (DataW H)) (before: List MemPlace)
  (hval: ∀(j: Nat) t v,Go.Proofs.Try.f8.params[j]? =some t→args[j]? =some v→Value.okWide prog W .any 0 t v)
  (hW: DataW.Whole enc prog Go.Proofs.Try.f8.params.toList Rows.heapBoundSpec.vars false W args.toList ds gs before) (hk: Rows.uptoSmall H (ds++gs)=true) :
  Calls prog 8 args W fun e W'=> ∃ v,e=.returned v∧Rows.heapBoundSpec.post enc prog f8 false true false false W args v W':=by
 have hW':=hW;obtain⟨p,q,hA0,hV,rfl,hfz,hnd⟩:=hW;have hA: DataW.TrodAll enc prog W 0 (fun _=>true) true Go.Proofs.Try.f8.params.toList args.toList ds p:=hA0;rw [params8] at hA hval;obtain⟨v0,v1,v2,v3,d0,d1,d2,d3,p0,p1,p2,p3,rfl,rfl,rfl,g0,g1,g2,g3⟩:=trodAll_four hA;obtain⟨rfl,rfl⟩:=trodVars_none hV;have hb: Rows.uptoBulkAll ([d0,d1,d2,d3]++ [])≤1048576:=of_decide_eq_true hk;simp only [List.append_nil,Rows.uptoBulkAll] at hb;obtain⟨t0,A0,c0,rfl,h0,hz0,hb0⟩:=open_tmB (by omega) (hval 0 46 v0 J J) g0;obtain⟨A1,xs1,c1,rfl,h1⟩:=open_intsV (by omega) (hval 1 22 v1 J J) g1;obtain⟨A2,xs2,c2,rfl,h2⟩:=open_intsV (by omega) (hval 2 22 v2 J J) g2;obtain⟨b3,rfl⟩:=open_boolV g3 (hval 3 4 v3 J J);refine(c_HeapBound (inv_all W) h0 hz0 hb0 h1 h2).mono fun e W' hh=>?_;obtain⟨H',rfl,hS⟩:=hh;exact⟨_,rfl,post_old (l:=d0) hW' J J J (fun _ _ _=>trodAll_mk1 (shut_bool underlying4 _)) (below_of hS) (by rw [params8];intro t ht;simp at ht;rcases ht with rfl | rfl | rfl <;> exact⟨by kernel_rfl,of_decide_eq_true (by kernel_rfl)⟩) (ok_one (by kernel_rfl) J (okWide_bool_mk underlying4 _))⟩
theorem heapBound_lifted (os: Os) (started: os.Started) (H: Type) (enc: TypeId × Value→H) (F: Stop.Interp) :
  ReturnsInHanded {} checked os 8 .any ((Rows.OpenSpec.upto Rows.heapBoundSpec).pre6 enc prog f8 Rows.heapBoundUptoRow.domain false) (((Rows.OpenSpec.upto Rows.heapBoundSpec).at F).post enc prog f8 false true false false):=by
 refine returnsInHanded_of_cond (C:=checked) (s:=Rows.OpenSpec.upto Rows.heapBoundSpec) (k:=Rows.uptoSmall) J own started (by kernel_rfl) func8
  (OpenSpec.witness (enc:=enc) (C:=checked) (s:=Rows.OpenSpec.upto Rows.heapBoundSpec) (k:=Rows.uptoSmall) J false ⟨#[],#[.agg #[.int .i64 0,.int .i64 0,.string ⟨#[]⟩,.slice none 0 0],.slice none 0 0,.slice none 0 0,.bool false], []⟩ 8 (by kernel_rfl) (by kernel_rfl) (by kernel_rfl)
   (x:=([.agg [.lit (.int .i64 0),.lit (.int .i64 0),.lit (.string []),.nil],.nil,.nil,.lit (.bool false)], [], [])) (by kernel_rfl) J (by kernel_rfl)) ?_
 intro W base args ds gs before hval hW _ hk _;exact heapBound_contract H enc W base args ds gs before hval hW hk
theorem heapBound_proved: Rows.HeapBoundUptoSaid:=
 OpenClaim.holds_of_cond 8 f8 J J J J J J J ⟨rfl,rfl,rfl,rfl,rfl⟩ rfl J J J J (by kernel_rfl) func8 (by kernel_rfl)
  (of_decide_eq_true (by kernel_rfl)) (by unfold Func.isWrapper;first |(rw [if_pos (by decide +kernel)];kernel_rfl) |(rw [if_neg (by decide +kernel)];exact⟨rfl,rfl⟩))
  (fun os started H enc _ F=>heapBound_lifted os started H enc F)
end Go.Vk.Try
namespace Go.Proofs.Ythblpljakpecdaa
theorem heapBound_holds: Rows.HeapBoundUptoSaid:=Go.Vk.Try.heapBound_proved
end Go.Proofs.Ythblpljakpecdaa

