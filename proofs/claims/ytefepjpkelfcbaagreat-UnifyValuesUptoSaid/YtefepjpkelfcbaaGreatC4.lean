/- Part 4 of the proof of unifyValues_holds. Conditions: none. -/
import Derived.Test.YtefepjpkelfcbaaGreatC3
set_option linter.unusedVariables false
set_option linter.unusedSimpArgs false
set_option linter.unusedSectionVars false
set_option maxRecDepth 100000
open Go.Proofs.Tryz
namespace Go.Vk.Tryz
open Go.RowKit
set_option maxHeartbeats 2000000 in
theorem c_RWhole {w0: World} {H: PHeap} (hI: Inv w0 H []) {Ab: Option Addr} {cb: Nat} {B: List Tm} (hB: RowT H Ab cb B) {t: Tm} {A: Option Addr} {c: Nat} (hr: RowT H A c t.l) (hsb: ∀ t ∈ B,t.sz≤1000000000000∧strB t=true) (htb: t.sz≤1000000000000∧strB t=true): Calls prog 15 #[(.agg #[(.slice Ab B.length cb)]),(tv t A c)] w0 (fun e w'=> ∃ H' A c,e=.returned (.tuple #[tv (wholeU B t).1 A c,.int .i64 (wholeU B t).2])∧RowT H' A c (wholeU B t).1.l∧Step w0 H [] w' H' []):=by
 have hS:=Step.refl hI;have hlB:=hB.len;refine enter [(.agg #[(.slice Ab B.length cb)]),(tv t A c)] func15 rfl ntmps15 rfl fun a ha=>?_;refine wp_seq (ab (lin rfl (aD (cs:= #[(.slice Ab B.length cb)]) hS ha rfl rfl rfl fun b1 a w hS ha=>?_)));refine lin rfl (aD (cs:=(tA t A c)) hS ha rfl rfl rfl fun b3 a w hS ha=>?_);refine lin rfl (aE (cs:=aZ) T26 hS ha rfl rfl fun b5 a w hS ha=>?_);refine Ls rfl ha fun a ha=>?_;refine wpList_nil (aa (wp_seq (wp_seq (ab (lin rfl (ai (vs:= [(.slice Ab B.length cb)]) T24 rfl ha rfl (hS.blkL 2 rfl) rfl (ag rfl) rfl fun a ha=>?_))))));have hk7:=c_Is hS.inv.nil hB hsb;refine lin rfl (ah func45 rfl rfl (ha.evs rfl) ha rfl (hk7) ?_);rintro e w ⟨rfl,hc⟩;refine⟨_,rfl,fun a ha=>?_⟩;have hS:=hS.call hc;refine lin rfl (aO ha rfl rfl fun a ha=>?_);refine wpList_nil (aa (ar (t:=11) ha rfl (fun h8 ha=>?_) (fun h8 ha=>?_)))
 ·have hg_: ∀ ts,gvE B ts=30:=fA h8;refine au ha rfl (wp_seq (ab (lin rfl (aL (vs:= []) (cells:=lZ) T26 PL26 ha (ha.evp rfl) rfl rfl fun a ha=>?_))));refine lin rfl (av (cs':=aZ) T26 hS (i:=0) rfl ha rfl rfl rfl rfl rfl rfl fun a w hS ha=>?_);refine Ls rfl ha fun a ha=>?_;refine wpList_nil (aa (wp_ret (ak (retA1 (i:=0) (cs:=aZ) rfl T26 rfl hS rfl ha rfl rfl rfl ?_))));have hv_: wholeU B t=(tZ,30):=by unfold wholeU;rw [if_neg (by rw [hg_];decide),hg_];rfl
  rw [hv_];exact⟨_,_,_,rfl,(RowT.nil _),hS.drop_all⟩
 ·have hvB: isB B=true:=by simpa using h8
  refine an ha rfl (wp_skip (aa (wp_seq (wp_seq (ab (lin rfl (ai (vs:=(tL t A c)) T26 rfl ha rfl (hS.blkL 1 rfl) rfl (ag rfl) rfl fun a ha=>?_)))))));refine lin rfl (ac (f:=0) (o2:=0) T24 T22 rfl rfl rfl rfl ha rfl rfl fun a ha=>?_);refine lin rfl (ae (v:=(.slice Ab B.length cb)) T22 rfl ha rfl (hS.blkL 2 rfl) rfl rfl fun a ha=>?_);refine lin rfl (aH T22.und ha rfl rfl fun a ha=>?_);have hk9:=cF (n:=((B.length: Nat): Int)) hS.inv.nil hr htb.1 htb.2;refine lin rfl (ah func46 rfl rfl (ha.evs rfl) ha rfl (hk9) ?_);rintro e w ⟨rfl,hc⟩;refine⟨_,rfl,fun a ha=>?_⟩;have hS:=hS.call hc;refine lin rfl (aO ha rfl rfl fun a ha=>?_);refine wpList_nil (aa (ar (t:=18) ha rfl (fun h10 ha=>?_) (fun h10 ha=>?_)))
  ·have hot: okT B.length t=false:=by simpa only [okT,Bool.not_eq_true',Bool.not_eq_false'] using h10
   refine au ha rfl (wp_seq (ab (lin rfl (aL (vs:= []) (cells:=lZ) T26 PL26 ha (ha.evp rfl) rfl rfl fun a ha=>?_))));refine lin rfl (av (cs':=aZ) T26 hS (i:=0) rfl ha rfl rfl rfl rfl rfl rfl fun a w hS ha=>?_);refine Ls rfl ha fun a ha=>?_;refine wpList_nil (aa (wp_ret (ak (retA1 (i:=0) (cs:=aZ) rfl T26 rfl hS rfl ha rfl rfl rfl ?_))));have hv_: wholeU B t=(tZ,3):=by unfold wholeU;rw [if_neg (by rw [eO hvB (List.mem_singleton.2 rfl) hot];decide),eO hvB (List.mem_singleton.2 rfl) hot];rfl
   rw [hv_];exact⟨_,_,_,rfl,(RowT.nil _),hS.drop_all⟩
  ·have hot: okT B.length t=true:=by simpa only [okT,Bool.not_eq_true',Bool.not_eq_false'] using h10
   refine an ha rfl (wp_skip (aa (wp_seq (ab (lin rfl (ai (vs:= [(.slice Ab B.length cb)]) T24 rfl ha rfl (hS.blkL 2 rfl) rfl (ag rfl) rfl fun a ha=>?_))))));refine lin rfl (ai (vs:=(tL t A c)) T26 rfl ha rfl (hS.blkL 1 rfl) rfl (ag rfl) rfl fun a ha=>?_);have hk12:=c_expand (cn.1 hvB).1 600 t 600 _ _ _ 4000 _ hS.inv.nil _ _ hB hr hot rfl (by omega) (by omega);rw [show ((601: Int) - 600)=1 from by kernel_rfl] at hk12;rw [show (600+1)=601 from by kernel_rfl] at hk12;refine lin rfl (ah func67 rfl rfl (ha.evs rfl) ha rfl (hk12) ?_);rintro e w ⟨H11,A11,c11,rfl,hr11,hc11⟩;refine⟨_,rfl,fun a ha=>?_⟩;have hS:=hS.call hc11;refine Lm rfl ha fun a ha=>?_;refine lin rfl (aq (v:=(tv ((whR (whl B 601 t 4000 1).1)) A11 c11)) ha rfl rfl rfl fun a ha=>?_);refine lin rfl (aq (v:=(iV (exL (whl B 601 t 4000 1)))) ha rfl rfl rfl fun a ha=>?_);refine lin rfl (aq (v:=(.bool ((whl B 601 t 4000 1).1.isSome))) ha rfl rfl rfl fun a ha=>?_);refine lin rfl (aE (cs:=aZ) T26 hS ha rfl rfl fun b13 a w hS ha=>?_);refine lin rfl (av (cs':=(tA ((whR (whl B 601 t 4000 1).1)) A11 c11)) T26 hS (i:=0) rfl ha rfl rfl rfl rfl rfl rfl fun a w hS ha=>?_);refine Ls rfl ha fun a ha=>?_;refine Ls rfl ha fun a ha=>?_;refine wpList_nil (aa (wp_seq (wp_seq (ab (Lm rfl ha fun a ha=>?_)))));refine lin rfl (aO ha rfl rfl fun a ha=>?_);refine wpList_nil (aa (ar (t:=28) ha rfl (fun h15 ha=>?_) (fun h15 ha=>?_)))
   ·refine au ha rfl (wp_seq (ab (lin rfl (aL (vs:= []) (cells:=lZ) T26 PL26 ha (ha.evp rfl) rfl rfl fun a ha=>?_))));refine lin rfl (av (cs':=aZ) T26 hS (i:=1) rfl ha rfl rfl rfl rfl rfl rfl fun a w hS ha=>?_);refine Ls rfl ha fun a ha=>?_;refine wpList_nil (aa (wp_ret (ak (retA1 (i:=1) (cs:=aZ) rfl T26 rfl hS rfl ha rfl rfl rfl ?_))));have hv_: wholeU B t=(tZ,2):=by unfold wholeU;rw [if_pos (gve1 hvB hot),if_neg (by simpa using h15)];rfl
    rw [hv_];exact⟨_,_,_,rfl,(RowT.nil _),hS.drop_all⟩
   ·refine an ha rfl (wp_skip (aa (wp_seq (ab (lin rfl (ai (vs:=(tL ((whR (whl B 601 t 4000 1).1)) A11 c11)) T26 rfl ha rfl (hS.blkL 0 rfl) rfl (ag rfl) rfl fun a ha=>?_))))));refine lin rfl (av (cs':=(tA ((whR (whl B 601 t 4000 1).1)) A11 c11)) T26 hS (i:=1) rfl ha rfl rfl rfl rfl rfl rfl fun a w hS ha=>?_);refine Ls rfl ha fun a ha=>?_;refine wpList_nil (aa (wp_ret (retA1 (i:=1) (cs:=(tA ((whR (whl B 601 t 4000 1).1)) A11 c11)) rfl T26 rfl hS rfl ha rfl rfl rfl ?_)));have hv_: wholeU B t=((whR (whl B 601 t 4000 1).1),0):=by unfold wholeU;rw [if_pos (gve1 hvB hot),if_pos (by simpa using h15)]
    rw [hv_];exact⟨_,_,_,rfl,hr11,hS.drop_all⟩
end Go.Vk.Tryz
namespace Go.Vk
section
variable {s r: List Tm} {t u: Tm} (hs: isB s=true) (hr: isB r=true) (ht: okT s.length t=true) (hu: okT s.length u=true) (hl: s.length≤r.length) (he:(askU s t u).2=0) (hf:(askU r t u).2=0) (h1:(impD r s).2=true) (h2:(impD r s).1=true)
include hs hr ht hu hl he hf h1 h2
end
section
variable {s: List Tm} {t u: Tm} (hs: isB s=true) (ht: okT s.length t=true) (hu: okT s.length u=true)
include hs ht hu
end
section
variable {s r: List Tm} {t u: Tm} (hs: isB s=true) (hr: isB r=true) (ht: okT s.length t=true) (hu: okT s.length u=true) (hl: s.length≤r.length)
include hs ht hu
include hr hl
omit hr hl
end
end Go.Vk
namespace Go.Vk
open Go.RowKit
abbrev bls (xs: List Bool): List Value:=xs.map Value.bool
theorem bls_at {xs: List Bool} {j: Nat} {x: Bool} (h: xs[j]? =some x):(bls xs)[j * 1+0]? =some (.bool x):=by
 rw [Nat.mul_one,Nat.add_zero]
 show (List.map _ _)[j]? =_
 rw [List.getElem?_map,h];rfl
theorem splice_bls {xs: List Bool} {j: Nat} (hj: j < xs.length) (x: Bool): splice (bls xs) (j * 1) [.bool x]=bls (xs.set j x):=by
 unfold splice bls;rw [Nat.mul_one,List.map_set,List.set_eq_take_append_cons_drop,if_pos (by simpa using hj),List.append_assoc];rfl
theorem zcells_bool (k: Nat): zcells (.bool false) k=bls (List.replicate k false):=by
 have hl:(zcells (.bool false) k).length=k * 1:=aX _ _
 apply List.ext_getElem?
 intro j
 by_cases hj: j < k
 ·simp only [zcells,Builtin.zeroCells,Array.toList_map,List.getElem?_map,Array.toList_range,bls];have hr:(List.range (k *(Value.bool false).cells.size))[j]? =some j:=List.getElem?_range (show j < k * 1 by omega);rw [hr,List.getElem?_replicate,if_pos hj];simp only [Option.map_some,Option.some.injEq];have h5: j %(Value.bool false).cells.size=0:=Nat.mod_one j;rw [h5];rfl
 ·rw [List.getElem?_eq_none (by omega),List.getElem?_eq_none (by simp;omega)]
structure Met (n: Nat) (ms: List Bool) (seen: List Int): Prop where
 len: ms.length=n
 at_: ∀ v: Nat,v < n→ms[v]? =some (seen.contains (v: Int))
theorem Met.zero (n: Nat): Met n (List.replicate n false) []:=⟨by simp,fun v hv=>by rw [List.getElem?_replicate,if_pos hv];rfl⟩
theorem Met.get {n: Nat} {ms: List Bool} {seen: List Int} (h: Met n ms seen) {v: Int} (h0: 0≤v) (h1: v < n) {b: Bool} (hb: ms[v.toNat]? =some b): seen.contains v=b:=by
 have:=h.at_ v.toNat (by omega);rw [hb,show ((v.toNat: Nat): Int)=v by omega] at this;exact(Option.some.inj this).symm
theorem Met.set {n: Nat} {ms: List Bool} {seen: List Int} (h: Met n ms seen) {v: Int} (h0: 0≤v) (h1: v < n): Met n (ms.set v.toNat true) (v::seen):=by
 refine⟨by rw [List.length_set];exact h.len,fun w hw=>?_⟩;rw [List.getElem?_set,List.contains_cons];have hl:=h.len
 by_cases e: v.toNat=w
 ·rw [if_pos e,if_pos (by omega),show ((w: Int) == v)=true by simp;omega];rfl
 ·rw [if_neg e,h.at_ w hw,show ((w: Int) == v)=false by simp;omega];rfl
def Us (B: List Tm) (seen: List Int): Nat:=unseenN seen 0 B
theorem fh {B: List Tm} {seen: List Int} {v: Int} {u: Tm} (h0: 0≤v) (hu: B[v.toNat]? =some u) (hs: seen.contains v=false): Us B (v::seen)+u.sz≤Us B seen:=by
 have:=cQ seen B 0 v.toNat u hu (by rw [show ((0+v.toNat: Nat): Int)=v by omega];exact hs);rw [show ((0+v.toNat: Nat): Int)=v by omega] at this;exact this
structure WK (B: List Tm) (t: Tm) (seen out seen' out': List Int): Prop where
 vf: ∀ ts,AllV B.length ts→VF B (fun _=>false) (t::ts) seen out=VF B (fun _=>false) ts seen' out'
 u: Us B seen'≤Us B seen
 o: out'.length+Us B seen'≤out.length+Us B seen
section
variable {n: Nat} {B: List Tm} (hG: Gst B.length B) {t: Tm} {seen out: List Int} (ho: overR (B.length: Int) t=true)
include hG ho
omit hG in
theorem dk {ts: List Tm} (h: AllV B.length ts): AllV B.length (t::ts):=fun u hu=>by
 rcases List.mem_cons.1 hu with rfl | hu
 ·exact ho
 ·exact h u hu
theorem WK.sn (hk: t.kind=1) (hs: seen.contains t.n=true): WK B t seen out seen out:=
 ⟨fun ts h=>VF_seen hG.allV (dk ho h) hk hs,Nat.le_refl _,Nat.le_refl _⟩
theorem WK.op (hk: t.kind=1) (hs: seen.contains t.n=false) {u: Tm} (hu: B[t.n.toNat]? =some u) (h0: u.kind=0): WK B t seen out (t.n::seen) (out++ [t.n]):=by
 have hv:=bu ho hk;have hm:=fh hv.1 hu hs;have hp:=u.sz_pos;exact⟨fun ts h=>VF_open hG.allV (dk ho h) hk hs (by unfold opn;rw [getD_some hu];exact decide_eq_true h0) rfl,by omega,by rw [List.length_append];simp only [List.length_cons,List.length_nil];omega⟩
theorem WK.bd (hk: t.kind=1) (hs: seen.contains t.n=false) {u: Tm} (hu: B[t.n.toNat]? =some u) (h0: ¬ u.kind=0) {seen' out': List Int} (h: WK B u (t.n::seen) out seen' out'): WK B t seen out seen' out':=by
 have hv:=bu ho hk;have hm:=fh hv.1 hu hs;have h1:=h.u;have h2:=h.o;exact⟨fun ts hts=>(VF_bound' hG.allV (dk ho hts) hk hs (by unfold opn;rw [getD_some hu];exact decide_eq_false h0) hu).trans (h.vf ts hts),by omega,by omega⟩
end
structure WL (B: List Tm) (us: List Tm) (k: Nat) (seen out seen' out': List Int): Prop where
 vf: ∀ ts,AllV B.length ts→VF B (fun _=>false) (us++ts) seen out=VF B (fun _=>false) (us.drop k++ts) seen' out'
 u: Us B seen'≤Us B seen
 o: out'.length+Us B seen'≤out.length+Us B seen
theorem WL.zero (B us: List Tm) (seen out: List Int): WL B us 0 seen out seen out:=⟨fun ts h=>rfl,Nat.le_refl _,Nat.le_refl _⟩
theorem WL.step {B us: List Tm} {k: Nat} {x: Tm} {seen out seen' out' seen2 out2: List Int} (h: WL B us k seen out seen' out') (hv: AllV B.length us) (hx: us[k]? =some x) (hw: WK B x seen' out' seen2 out2): WL B us (k+1) seen out seen2 out2:=
 ⟨fun ts hts=>by
  rw [h.vf ts hts,aI hx,List.cons_append];exact hw.vf _ fun u hu=>by
   rcases List.mem_append.1 hu with hu | hu
   ·exact hv u (List.mem_of_mem_drop hu)
   ·exact hts u hu,Nat.le_trans hw.u h.u,Nat.le_trans hw.o h.o⟩
theorem WL.done {B: List Tm} (hG: Gst B.length B) {t: Tm} {k: Nat} {seen out seen' out': List Int} (ho: overR (B.length: Int) t=true) (hk: ¬ t.kind=1) (hl: t.l.length≤k) (h: WL B t.l k seen out seen' out'): WK B t seen out seen' out':=
 ⟨fun ts hts=>by rw [VF_sub hG.allV (dk ho hts) hk,h.vf ts hts,List.drop_of_length_le hl];rfl,h.u,h.o⟩
end Go.Vk
namespace Go.Vk
theorem vfree_len {B: List Tm} {stop: Int→Bool}: ∀(f: Nat) (todo: List Tm) (seen out: List Int),(vfree B stop f todo seen out).2.length≤out.length+f:=by
 intro f
 induction f with
 | zero=>intro todo seen out;exact Nat.le_refl _
 | succ f ih =>
  intro todo seen out
  cases todo with
  | nil=>exact Nat.le_add_right _ _
  | cons t ts =>
   simp only [vfree]
   repeat' split
   all_goals first
    |(have h:=ih ts seen out;omega)
    |(simp only [List.length_append,List.length_cons,List.length_nil];omega)
    |(have h:=ih ts (t.n::seen) (out++ [t.n]);simp only [List.length_append,List.length_cons,List.length_nil] at h;omega)
    |(have h:=ih (B.getD t.n.toNat default::ts) (t.n::seen) out;omega)
    |(have h:=ih (t.l++ts) seen out;omega)
theorem freeU_len8 {C: List Tm} {b: Tm}:(freeU C b).1.length * 8≤140737488355328:=by
 unfold freeU
 split
 ·rename_i h
  have hG:=eL h;have h1:=cv (bK h (List.mem_singleton.2 rfl));have h2:=hG.szL;have h3:=hG.le;have h4:=vfree_len (B:=C) (stop:=fun _=>false) (vmeas C [b] []+1) [b] [] [];have h5: vmeas C [b] []=Tm.szL [b]+Tm.szL C:=by unfold vmeas;rw [cj]
  rw [h5] at h4;simp only [Tm.szL,List.length_nil] at h4
  show (VF C (fun _=>false) [b] [] []).2.length * 8≤_
  unfold VF;rw [h5];simp only [Tm.szL];omega
 ·simp
end Go.Vk
namespace Go.Vk.Tryz
open Go.RowKit
set_option maxHeartbeats 4000000 in
theorem c_rwalk {B: List Tm} (hG: Gst B.length B): ∀(m: Nat) (t: Tm) (A: Option Addr) (c: Nat) (seen out: List Int) (ms: List Bool) (Am Ao: Option Addr) (cm co: Nat) (enm eno: Ent) (w0: World) (H: PHeap),Inv w0 H [enm,eno]→∀(Ab: Option Addr) (cb: Nat),RdT w0 H [enm,eno] Ab cb B→RowT H A c t.l→overR (B.length: Int) t=true→t.sz+Us B seen≤m→out.length+Us B seen≤1000000000→Row (.slice Am B.length cm) enm 4 1 B.length (bls ms)→Met B.length ms seen→Row (.slice Ao out.length co) eno 3 1 out.length (ints out)→Calls prog 79 #[(.agg #[(.slice Ab B.length cb)]),(tv t A c),(.slice Am B.length cm),(.slice Ao out.length co)] w0 (fun e w'=> ∃ Ao' co' enm' eno' seen' out' ms',e=.returned (.slice Ao' out'.length co')∧Row (.slice Am B.length cm) enm' 4 1 B.length (bls ms')∧Met B.length ms' seen'∧Row (.slice Ao' out'.length co') eno' 3 1 out'.length (ints out')∧WK B t seen out seen' out'∧Step w0 H [enm,eno] w' H [enm',eno']):=by
 refine fun m=>Nat.strongRecOn m fun m ih=>?_;intro t A c seen out ms Am Ao cm co enm eno w0 H hI Ab cb hB hr ho hm hob hRm hM hRo;have hS:=Step.refl hI;have hlB:=hB.len;have hlr:=hr.len;have hml:=hM.len;have hpz:=t.sz_pos;have hva: AllV B.length t.l:=cH ho;refine enter [(.agg #[(.slice Ab B.length cb)]),(tv t A c),(.slice Am B.length cm),(.slice Ao out.length co)] func79 rfl ntmps79 rfl fun a ha=>?_;refine wp_seq (ab (lin rfl (aD (cs:= #[(.slice Ab B.length cb)]) hS ha rfl rfl rfl fun b1 a w hS ha=>?_)));refine lin rfl (aD (cs:=(tA t A c)) hS ha rfl rfl rfl fun b3 a w hS ha=>?_);refine Ls rfl ha fun a ha=>?_;refine wpList_nil (aa (wp_seq (wp_seq (ab (lin rfl (ac (f:=0) (o2:=0) T26 T3 rfl rfl rfl rfl ha rfl rfl fun a ha=>?_))))));refine lin rfl (ae (v:=(iV t.kind)) T3 rfl ha rfl (hS.blkL 0 rfl) rfl rfl fun a ha=>?_);refine lin rfl (aT (i:=t.kind) (j:=1) ha rfl rfl rfl fun a ha=>?_);refine wpList_nil (aa (al (t:=12) ha rfl (fun h5 ha=>?_) (fun h5 ha=>?_)))
 ·have hv:=bu ho h5;refine au ha rfl (wp_seq (wp_seq (ab (Lm rfl ha fun a ha=>?_))));refine lin rfl (ac (f:=1) (o2:=1) T26 T3 rfl rfl rfl rfl ha rfl rfl fun a ha=>?_);refine lin rfl (ae (v:=(iV t.n)) T3 rfl ha rfl (hS.blkL 0 rfl) rfl rfl fun a ha=>?_);obtain⟨b6,cap6,cur6,hv6,he6,hc6, -⟩:=hRm.at_ (j:=(Int.toNat t.n)) (by omega);have hA6:(Am: Option Addr)=some ⟨b6,0,none⟩:=by injection hv6
  obtain⟨x6,hx6⟩: ∃ x,ms[(Int.toNat t.n)]? =some x:=⟨_,List.getElem?_eq_getElem (by first | omega |(simp;omega))⟩;have hc6:=hc6 0 (.bool x6) (by omega) (bls_at hx6);refine lin rfl (aw (b:=b6) (o:=0) (j:=(Int.toNat t.n)) T108.und T4 hA6 ha rfl rfl (by omega) (by omega) rfl fun a ha=>?_);refine lin rfl (ae (v:=(.bool x6)) T4 rfl ha rfl (hS.blkL 2 (b:=b6) (o:=.cells cur6 4 (0,0)) (by rw [← he6];rfl)) hc6 rfl fun a ha=>?_);refine wpList_nil (aa (ar (t:=17) ha rfl (fun h7 ha=>?_) (fun h7 ha=>?_)))
  ·have hsn: seen.contains t.n=true:=(hM.get hv.1 hv.2 hx6).trans h7;refine au ha rfl (wp_seq (ab (Lm rfl ha fun a ha=>?_)));refine Ls rfl ha fun a ha=>?_;refine wpList_nil (aa (wp_ret (ak (ak (ret1 rfl ha rfl ?_)))));have hS:=hS.drop;have hS:=hS.drop;exact⟨_,_,_,_,seen,out,_,rfl,hRm,hM,hRo,(WK.sn hG ho h5 hsn),hS.plain⟩
  ·have hsn: seen.contains t.n=false:=(hM.get hv.1 hv.2 hx6).trans h7;refine an ha rfl (wp_skip (aa (wp_seq (ab (Lm rfl ha fun a ha=>?_)))));refine lin rfl (ac (f:=1) (o2:=1) T26 T3 rfl rfl rfl rfl ha rfl rfl fun a ha=>?_);refine lin rfl (ae (v:=(iV t.n)) T3 rfl ha rfl (hS.blkL 0 rfl) rfl rfl fun a ha=>?_);obtain⟨b8,cap8,cur8,hv8,he8,hc8, -⟩:=hRm.at_ (j:=(Int.toNat t.n)) (by omega);have hA8:(Am: Option Addr)=some ⟨b8,0,none⟩:=by injection hv8
   obtain⟨x8,hx8⟩: ∃ x,ms[(Int.toNat t.n)]? =some x:=⟨_,List.getElem?_eq_getElem (by first | omega |(simp;omega))⟩;have hc8:=hc8 0 (.bool x8) (by omega) (bls_at hx8);refine lin rfl (aw (b:=b8) (o:=0) (j:=(Int.toNat t.n)) T108.und T4 hA8 ha rfl rfl (by omega) (by omega) rfl fun a ha=>?_);refine lin rfl (bD (j:=(Int.toNat t.n)) T4 hS (i:=2) rfl hRm rfl hA8 (by omega) rfl ha rfl rfl rfl rfl fun en9 a w hR9 he9 hS ha=>?_);rw [show (Value.cells _).toList= [.bool true] from rfl,splice_bls (by first | omega |(simp;omega))] at hR9;have hM_:=hM.set hv.1 hv.2;refine wpList_nil (aa (wp_seq (wp_seq (ab (lin rfl (ac (f:=0) (o2:=0) T24 T22 rfl rfl rfl rfl ha rfl rfl fun a ha=>?_))))));refine lin rfl (ae (v:=(.slice Ab B.length cb)) T22 rfl ha rfl (hS.blkL 1 rfl) rfl rfl fun a ha=>?_);refine lin rfl (ac (f:=1) (o2:=1) T26 T3 rfl rfl rfl rfl ha rfl rfl fun a ha=>?_);refine lin rfl (ae (v:=(iV t.n)) T3 rfl ha rfl (hS.blkL 0 rfl) rfl rfl fun a ha=>?_);obtain⟨t10,b10,off10,e10,cs10,fz10,A10,c10,ht10,hA10,hb10,hc10,hr10⟩:=hB.get (j:=(Int.toNat t.n)) (by omega);refine lin rfl (aw (b:=b10) (o:=off10) (j:=(Int.toNat t.n)) T22.und T26 hA10 ha rfl rfl (by omega) (by omega) rfl fun a ha=>?_);refine lin rfl (ac (f:=0) (o2:=(off10+(Int.toNat t.n) * 4+0)) T26 T3 rfl rfl rfl rfl ha rfl rfl fun a ha=>?_);refine lin rfl (ae (v:=(iV t10.kind)) T3 rfl ha rfl (hS.keepN hb10.1 hb10.2) (hc10 0 _ rfl) rfl fun a ha=>?_);refine lin rfl (aT (i:=t10.kind) (j:=0) ha rfl rfl rfl fun a ha=>?_);refine wpList_nil (aa (al (t:=30) ha rfl (fun h11 ha=>?_) (fun h11 ha=>?_)))
   ·refine au ha rfl (wp_seq (ab (Lm rfl ha fun a ha=>?_)));refine lin rfl (ac (f:=1) (o2:=1) T26 T3 rfl rfl rfl rfl ha rfl rfl fun a ha=>?_);refine lin rfl (ae (v:=(iV t.n)) T3 rfl ha rfl (hS.blkL 0 rfl) rfl rfl fun a ha=>?_);refine lin rfl (aG (vs:= [(0,(iV t.n))]) (cells:= [(iV t.n)]) T33.und T3 hS ha (ha.evp rfl) rfl rfl rfl rfl fun b12 a w hS ha=>?_);obtain⟨H12,hS,hle12,hb12⟩:=hS.give;have hr12: RowI H12 (some ⟨b12,0,none⟩) 1 [t.n]:=RowI.of_lit [t.n] hb12 (by simp) rfl;have hS:=hS.front 3 rfl;refine lin rfl (a0 (news:=(ints [t.n])) (xs:=(ints out)) T33.und T3 rfl rfl hS hRo ha rfl rfl rfl (fun _=>⟨b12,0,_,_,_,rfl,hS.blkH hb12,ag rfl⟩) (br rfl) (by omega) rfl rfl fun v13 en13 a w hR13 hS ha=>?_);rw [← List.map_append] at hR13;obtain⟨A13,c13,rfl⟩:=hR13.slice;have hn_:(out.length+1)=(out++ [t.n]).length:=by have h_:=hR13.1;simp only [List.length_map] at h_;omega
    rw [show Value.slice A13 (out.length+1) c13=Value.slice A13 (out++ [t.n]).length c13 from by rw [hn_]] at ha;rw [hn_] at hR13;refine Ls rfl ha fun a ha=>?_;refine wpList_nil (aa (wp_ret (ak (ak (ret1 rfl ha rfl ?_)))));have hS:=hS.front 1 rfl;have hS:=hS.drop;have hS:=hS.front 1 rfl;have hS:=hS.drop;have hS:=hS.front 1 rfl;exact⟨_,_,_,_,(t.n::seen),(out++ [t.n]),_,rfl,hR9,hM_,hR13,(WK.op hG ho h5 hsn ht10 h11),hS.plain⟩
   ·refine an ha rfl (wp_skip (aa (wp_seq ?_)));obtain⟨t14,b14,off14,e14,cs14,fz14,A14,c14,ht14,hA14,hb14,hc14,hr14⟩:=hB.get (j:=(Int.toNat t.n)) (by omega);have hS_:=hS;refine As.c_draw_head (ini:=(As.il [])) (sup:=(As.sl [])) (als:= []) (s0:=⟨H,fun _=>none⟩) (L:= [(some b3,(.cells (tA t A c) 26 (0,0))),(some b1,(.cells #[(.slice Ab B.length cb)] 24 (0,0))),en9,eno]) (N:=63) (E:= [(2,(.slice Am B.length cm)),(3,(.slice Ao out.length co)),(4,(pB b1)),(5,(pB b3))]) 9 [fun _ v=>v=(.agg #[(.slice Ab B.length cb)]),fun _ v=>v=(pB b1),fun _ v=>v=(.slice Ab B.length cb),fun _ v=>v=(.pointer (some ⟨b3,1,none⟩)),fun _ v=>v=(iV t.n),fun _ v=>v=(.pointer (some ⟨b14,off14+(Int.toNat t.n) * 4,none⟩)),fun _ v=>v=(tv t14 A14 c14),fun _ v=>v=(.slice Am B.length cm),fun _ v=>v=(.slice Ao out.length co)] mixed rfl rfl rfl (As.Monos.cons (fun _ _ _ _ h=>h) (As.Monos.cons (fun _ _ _ _ h=>h) (As.Monos.cons (fun _ _ _ _ h=>h) (As.Monos.cons (fun _ _ _ _ h=>h) (As.Monos.cons (fun _ _ _ _ h=>h) (As.Monos.cons (fun _ _ _ _ h=>h) (As.Monos.cons (fun _ _ _ _ h=>h) (As.Monos.cons (fun _ _ _ _ h=>h) (As.Monos.cons (fun _ _ _ _ h=>h) (As.Monos.nil)))))))))) (fun _=>rfl) hS (ha.pk rfl) (As.QuietsI.cons ?_ (As.QuietsI.cons ?_ (As.QuietsI.cons ?_ (As.QuietsI.cons ?_ (As.QuietsI.cons ?_ (As.QuietsI.cons ?_ (As.QuietsI.cons ?_ (As.QuietsI.cons ?_ (As.QuietsI.cons ?_ (As.QuietsI.nil)))))))))) (fun f_ a w s_ hls hS ha hdr_=>?_)
    ·refine As.Qx rfl fun a w H_ ax_ hle hax_ hS ha hd hls=>?_;have hSf:=hS;have hS:=Step.dropN _ _ hS;refine id (ai (vs:= [(.slice Ab B.length cb)]) T24 rfl ha rfl (hS.blkL 1 rfl) rfl (ag rfl) rfl fun a ha=>?_);exact As.qdone (s:=⟨H_,ax_⟩) (Le.refl _) ha hSf rfl
    ·refine As.Qx rfl fun a w H_ ax_ hle hax_ hS ha hd hls=>?_;have hSf:=hS;refine id (ac (f:=0) (o2:=0) T24 T22 rfl rfl rfl rfl ha rfl rfl fun a ha=>?_);exact As.qdone (s:=⟨H_,ax_⟩) (Le.refl _) ha hSf rfl
    ·refine As.Qx rfl fun a w H_ ax_ hle hax_ hS ha hd hls=>?_;obtain⟨_,ha,rfl⟩:=hd.g ha 1 rfl;have hSf:=hS;have hS:=Step.dropN _ _ hS;refine id (ae (v:=(.slice Ab B.length cb)) T22 rfl ha rfl (hS.blkL 1 rfl) rfl rfl fun a ha=>?_);exact As.qdone (s:=⟨H_,ax_⟩) (Le.refl _) ha hSf rfl
    ·refine As.Qx rfl fun a w H_ ax_ hle hax_ hS ha hd hls=>?_;have hSf:=hS;refine id (ac (f:=1) (o2:=1) T26 T3 rfl rfl rfl rfl ha rfl rfl fun a ha=>?_);exact As.qdone (s:=⟨H_,ax_⟩) (Le.refl _) ha hSf rfl
    ·refine As.Qx rfl fun a w H_ ax_ hle hax_ hS ha hd hls=>?_;obtain⟨_,ha,rfl⟩:=hd.g ha 3 rfl;have hSf:=hS;have hS:=Step.dropN _ _ hS;refine id (ae (v:=(iV t.n)) T3 rfl ha rfl (hS.blkL 0 rfl) rfl rfl fun a ha=>?_);exact As.qdone (s:=⟨H_,ax_⟩) (Le.refl _) ha hSf rfl
    ·refine As.Qx rfl fun a w H_ ax_ hle hax_ hS ha hd hls=>?_;obtain⟨_,ha,rfl⟩:=hd.g ha 2 rfl;obtain⟨_,ha,rfl⟩:=hd.g ha 4 rfl;have hSf:=hS;refine id (aw (b:=b14) (o:=off14) (j:=(Int.toNat t.n)) T22.und T26 hA14 ha rfl rfl (by omega) (by omega) rfl fun a ha=>?_);exact As.qdone (s:=⟨H_,ax_⟩) (Le.refl _) ha hSf rfl
    ·refine As.Qx rfl fun a w H_ ax_ hle hax_ hS ha hd hls=>?_;obtain⟨_,ha,rfl⟩:=hd.g ha 5 rfl;have hSf:=hS;have hS:=Step.dropN _ _ hS;refine id (ai (vs:=(tL t14 A14 c14)) T26 rfl ha rfl (hS.keepN hb14.1 hb14.2) rfl hc14 rfl fun a ha=>?_);exact As.qdone (s:=⟨H_,ax_⟩) (Le.refl _) ha hSf rfl
    ·refine As.Qx rfl fun a w H_ ax_ hle hax_ hS ha hd hls=>?_;have hSf:=hS;refine id (am ha rfl rfl fun a ha=>?_);exact As.qdone (s:=⟨H_,ax_⟩) (Le.refl _) ha hSf rfl
    ·refine As.Qx rfl fun a w H_ ax_ hle hax_ hS ha hd hls=>?_;have hSf:=hS;refine id (am ha rfl rfl fun a ha=>?_);exact As.qdone (s:=⟨H_,ax_⟩) (Le.refl _) ha hSf rfl
    obtain⟨H15,ax_⟩:=s_;have hle15: Le H H15:=hls.le;dsimp only at hdr_ hS;have hB:=hB.mono hle15;have hr14:=hr14.mono hle15;obtain⟨_,hv_,rfl⟩:=hdr_ 0 _ _ rfl rfl;have ha:=ha.add (hv_ _ rfl);obtain⟨_,hv_,rfl⟩:=hdr_ 6 _ _ rfl rfl;have ha:=ha.add (hv_ _ rfl);obtain⟨_,hv_,rfl⟩:=hdr_ 7 _ _ rfl rfl;have ha:=ha.add (hv_ _ rfl);obtain⟨_,hv_,rfl⟩:=hdr_ 8 _ _ rfl rfl;have ha:=ha.add (hv_ _ rfl);have he_: t14=t10:=Option.some.inj (ht14.symm.trans ht10);have hS:=hS.front 3 rfl;have hS:=hS.front 3 rfl;have hus_:=fh hv.1 ht14 hsn;have hk16:=ih (t14.sz+Us B (t.n::seen)) (by omega) t14 A14 c14 (t.n::seen) out (ms.set (Int.toNat t.n) true) Am Ao cm co en9 eno _ _ (Inv.left (L:= [en9,eno]) hS.inv) _ _ (hB.at_ hS (eE [en9,eno] _)) hr14 (hG.allV _ (List.mem_of_getElem? ht14)) (Nat.le_refl _) (by omega) hR9 hM_ hRo;refine any1 (i:=9) (by kernel_rfl) rfl rfl (ah func79 rfl rfl (ha.evs rfl) ha rfl (hk16) ?_);rintro e w ⟨A16,c16,em16,eo16,sn16,ou16,ms16,rfl,hRm16,hM16,hRo16,hW16,hc16⟩;refine⟨_,rfl,fun a ha=>?_⟩;have hS:=Step.frame (Lc:= [en9,eno]) hS hc16;have huw_:=hW16.u;have how_:=hW16.o;refine any1 (i:=10) (by kernel_rfl) rfl rfl (aC ha rfl rfl fun a ha=>?_);refine any0 (by kernel_rfl) ?_;refine aa (wp_ret (ak (ret1 rfl ha rfl ?_)));have hS:=hS.front 2 rfl;have hS:=hS.drop;have hS:=hS.front 2 rfl;have hS:=hS.drop;exact⟨_,_,_,_,sn16,ou16,_,rfl,hRm16,hM16,hRo16,(WK.bd hG ho h5 hsn ht14 (by rw [he_];exact h11) hW16),hS.plain⟩
 ·refine an ha rfl (wp_skip (aa (wp_seq (wp_seq (ab (Ls rfl ha fun a ha=>?_))))));refine wpList_nil (aa (wp_block (aP (fun nn_ a w=> ∃(H17: PHeap),∃(k: Nat),∃(sn: List Int),∃(xs_0: List Bool),∃(en_0: Ent),∃(xs_1: List Int),∃(en_1: Ent),∃(A_1: Option Addr),∃(c_1: Nat),Le H H17∧nn_=t.l.length - k∧Has [] a 63 [(2,(.slice Am B.length cm)),(3,(.slice A_1 xs_1.length c_1)),(4,(pB b1)),(5,(pB b3)),(9,(iV ((k: Nat): Int)))]∧Step w0 H [enm,eno] w H17 [(some b3,(.cells (tA t A c) 26 (0,0))),(some b1,(.cells #[(.slice Ab B.length cb)] 24 (0,0))),en_0,en_1]∧(Row (.slice Am B.length cm) en_0 4 1 B.length (bls xs_0))∧(Row (.slice A_1 xs_1.length c_1) en_1 3 1 xs_1.length (ints xs_1))∧(Met B.length xs_0 sn)∧(WL B t.l k seen out sn xs_1)∧(k≤t.l.length)) _ ⟨H,0,seen,ms,enm,out,eno,Ao,co,Le.refl _,rfl,ha.pk rfl,hS,hRm,hRo,hM,(WL.zero _ _ _ _),(by omega)⟩ ?_)));intro n17 a w hh;obtain⟨H17,k,sn,xs_0,en_0,xs_1,en_1,A_1,c_1,hle17,hn17,ha,hS,hR_0,hR_1,hM,hWL,hk⟩:=hh;have hB:=hB.mono hle17;have hr:=hr.mono hle17;have huw_:=hWL.u;have how_:=hWL.o;refine wp_seq (wp_seq (ab (Lm rfl ha fun a ha=>?_)));refine lin rfl (ac (f:=3) (o2:=3) T26 T22 rfl rfl rfl rfl ha rfl rfl fun a ha=>?_);refine lin rfl (ae (v:=(.slice A t.l.length c)) T22 rfl ha rfl (hS.blkL 0 rfl) rfl rfl fun a ha=>?_);refine lin rfl (aH T22.und ha rfl rfl fun a ha=>?_);refine lin rfl (aY (i:=((k: Nat): Int)) (j:=((t.l.length: Nat): Int)) ha rfl rfl rfl fun a ha=>?_);refine wpList_nil (aa (al (t:=50) ha rfl (fun h18 ha=>?_) (fun h18 ha=>?_)))
  ·refine au ha rfl (wp_skip (aa (wp_seq (wp_block ?_))));obtain⟨t19,b19,off19,e19,cs19,fz19,A19,c19,ht19,hA19,hb19,hc19,hr19⟩:=hr.get (j:=k) (by omega);have hS_:=hS;refine As.c_draw_head (ini:=(As.il [])) (sup:=(As.sl [])) (als:= []) (s0:=⟨H17,fun _=>none⟩) (L:= [(some b3,(.cells (tA t A c) 26 (0,0))),(some b1,(.cells #[(.slice Ab B.length cb)] 24 (0,0))),en_0,en_1]) (N:=63) (E:= [(2,(.slice Am B.length cm)),(3,(.slice A_1 xs_1.length c_1)),(4,(pB b1)),(5,(pB b3)),(9,(iV ((k: Nat): Int)))]) 8 [fun _ v=>v=(.agg #[(.slice Ab B.length cb)]),fun _ v=>v=(.pointer (some ⟨b3,3,none⟩)),fun _ v=>v=(.slice A t.l.length c),fun _ v=>v=(iV ((k: Nat): Int)),fun _ v=>v=(.pointer (some ⟨b19,off19+k * 4,none⟩)),fun _ v=>v=(tv t19 A19 c19),fun _ v=>v=(.slice Am B.length cm),fun _ v=>v=(.slice A_1 xs_1.length c_1)] mixed rfl rfl rfl (As.Monos.cons (fun _ _ _ _ h=>h) (As.Monos.cons (fun _ _ _ _ h=>h) (As.Monos.cons (fun _ _ _ _ h=>h) (As.Monos.cons (fun _ _ _ _ h=>h) (As.Monos.cons (fun _ _ _ _ h=>h) (As.Monos.cons (fun _ _ _ _ h=>h) (As.Monos.cons (fun _ _ _ _ h=>h) (As.Monos.cons (fun _ _ _ _ h=>h) (As.Monos.nil))))))))) (fun _=>rfl) hS (ha.pk rfl) (As.QuietsI.cons ?_ (As.QuietsI.cons ?_ (As.QuietsI.cons ?_ (As.QuietsI.cons ?_ (As.QuietsI.cons ?_ (As.QuietsI.cons ?_ (As.QuietsI.cons ?_ (As.QuietsI.cons ?_ (As.QuietsI.nil))))))))) (fun f_ a w s_ hls hS ha hdr_=>?_)
   ·refine As.Qx rfl fun a w H_ ax_ hle hax_ hS ha hd hls=>?_;have hSf:=hS;have hS:=Step.dropN _ _ hS;refine id (ai (vs:= [(.slice Ab B.length cb)]) T24 rfl ha rfl (hS.blkL 1 rfl) rfl (ag rfl) rfl fun a ha=>?_);exact As.qdone (s:=⟨H_,ax_⟩) (Le.refl _) ha hSf rfl
   ·refine As.Qx rfl fun a w H_ ax_ hle hax_ hS ha hd hls=>?_;have hSf:=hS;refine id (ac (f:=3) (o2:=3) T26 T22 rfl rfl rfl rfl ha rfl rfl fun a ha=>?_);exact As.qdone (s:=⟨H_,ax_⟩) (Le.refl _) ha hSf rfl
   ·refine As.Qx rfl fun a w H_ ax_ hle hax_ hS ha hd hls=>?_;obtain⟨_,ha,rfl⟩:=hd.g ha 1 rfl;have hSf:=hS;have hS:=Step.dropN _ _ hS;refine id (ae (v:=(.slice A t.l.length c)) T22 rfl ha rfl (hS.blkL 0 rfl) rfl rfl fun a ha=>?_);exact As.qdone (s:=⟨H_,ax_⟩) (Le.refl _) ha hSf rfl
   ·refine As.Qx rfl fun a w H_ ax_ hle hax_ hS ha hd hls=>?_;have hSf:=hS;refine id (am ha rfl rfl fun a ha=>?_);exact As.qdone (s:=⟨H_,ax_⟩) (Le.refl _) ha hSf rfl
   ·refine As.Qx rfl fun a w H_ ax_ hle hax_ hS ha hd hls=>?_;obtain⟨_,ha,rfl⟩:=hd.g ha 2 rfl;obtain⟨_,ha,rfl⟩:=hd.g ha 3 rfl;have hSf:=hS;refine id (aw (b:=b19) (o:=off19) (j:=k) T22.und T26 hA19 ha rfl rfl (by omega) (by omega) rfl fun a ha=>?_);exact As.qdone (s:=⟨H_,ax_⟩) (Le.refl _) ha hSf rfl
   ·refine As.Qx rfl fun a w H_ ax_ hle hax_ hS ha hd hls=>?_;obtain⟨_,ha,rfl⟩:=hd.g ha 4 rfl;have hb19:=hle _ _ hb19;have hSf:=hS;have hS:=Step.dropN _ _ hS;refine id (ai (vs:=(tL t19 A19 c19)) T26 rfl ha rfl (hS.blkH hb19) rfl hc19 rfl fun a ha=>?_);exact As.qdone (s:=⟨H_,ax_⟩) (Le.refl _) ha hSf rfl
   ·refine As.Qx rfl fun a w H_ ax_ hle hax_ hS ha hd hls=>?_;have hSf:=hS;refine id (am ha rfl rfl fun a ha=>?_);exact As.qdone (s:=⟨H_,ax_⟩) (Le.refl _) ha hSf rfl
   ·refine As.Qx rfl fun a w H_ ax_ hle hax_ hS ha hd hls=>?_;have hSf:=hS;refine id (am ha rfl rfl fun a ha=>?_);exact As.qdone (s:=⟨H_,ax_⟩) (Le.refl _) ha hSf rfl
   obtain⟨H20,ax_⟩:=s_;have hle20: Le H17 H20:=hls.le;dsimp only at hdr_ hS;have hB:=hB.mono hle20;have hr19:=hr19.mono hle20;obtain⟨_,hv_,rfl⟩:=hdr_ 0 _ _ rfl rfl;have ha:=ha.add (hv_ _ rfl);obtain⟨_,hv_,rfl⟩:=hdr_ 5 _ _ rfl rfl;have ha:=ha.add (hv_ _ rfl);obtain⟨_,hv_,rfl⟩:=hdr_ 6 _ _ rfl rfl;have ha:=ha.add (hv_ _ rfl);obtain⟨_,hv_,rfl⟩:=hdr_ 7 _ _ rfl rfl;have ha:=ha.add (hv_ _ rfl);have hS:=hS.front 3 rfl;have hS:=hS.front 3 rfl;have hsz_:=Tm.sz_get ht19;have hk21:=ih (t19.sz+Us B sn) (by omega) t19 A19 c19 sn xs_1 xs_0 Am A_1 cm c_1 en_0 en_1 _ _ (Inv.left (L:= [en_0,en_1]) hS.inv) _ _ (hB.at_ hS (eE [en_0,en_1] _)) hr19 (cH ho _ (List.mem_of_getElem? ht19)) (Nat.le_refl _) (by omega) hR_0 hM hR_1;refine any1 (i:=8) (by kernel_rfl) rfl rfl (ah func79 rfl rfl (ha.evs rfl) ha rfl (hk21) ?_);rintro e w ⟨A21,c21,em21,eo21,sn21,ou21,ms21,rfl,hRm21,hM21,hRo21,hW21,hc21⟩;refine⟨_,rfl,fun a ha=>?_⟩;have hS:=Step.frame (Lc:= [en_0,en_1]) hS hc21;have huw_:=hW21.u;have how_:=hW21.o;refine any1 (i:=9) (by kernel_rfl) rfl rfl (aC ha rfl rfl fun a ha=>?_);refine any0 (by kernel_rfl) ?_;refine ay (aa (ab (Lm rfl ha fun a ha=>?_)));refine lin rfl (aN (i:=((k: Nat): Int)) (j:=1) ha rfl rfl rfl (by omega) fun a ha=>?_);refine Ls rfl ha fun a ha=>?_;refine wpList_nil (aa (?_));have hS:=hS.front 1 rfl;have hS:=hS.front 1 rfl;have hS:=hS.front 3 rfl;have hS:=hS.front 3 rfl;exact⟨t.l.length - (k+1),by omega,H20,(k+1),sn21,ms21,em21,ou21,eo21,A21,c21,(hle17.trans (hle20)),rfl,ha.pk rfl,hS,hRm21,hRo21,hM21,(hWL.step hva ht19 hW21),(by omega)⟩
  ·refine an ha rfl (wp_exit (ap (ap (aF (aa (wp_seq (ab (Lm rfl ha fun a ha=>?_))))))));refine Ls rfl ha fun a ha=>?_;refine wpList_nil (aa (wp_ret (ret1 rfl ha rfl ?_)));have hS:=hS.drop;have hS:=hS.drop;exact⟨_,_,_,_,sn,xs_1,_,rfl,hR_0,hM,hR_1,(hWL.done hG ho h5 (by omega)),hS.plain⟩
set_option maxHeartbeats 4000000 in
theorem c_FreeOf {w0: World} {H: PHeap} (hI: Inv w0 H []) {Ab: Option Addr} {cb: Nat} {B: List Tm} (hB: RdT w0 H [] Ab cb B) {t: Tm} {A: Option Addr} {c: Nat} (hr: RowT H A c t.l) (hG: Gst B.length B) (hot: okT B.length t=true): Calls prog 70 #[(.agg #[(.slice Ab B.length cb)]),(tv t A c)] w0 (fun e w'=> ∃ A c en,e=.returned (.slice A (VF B (fun _=>false) [t] [] []).2.length c)∧Row (.slice A (VF B (fun _=>false) [t] [] []).2.length c) en 3 1 (VF B (fun _=>false) [t] [] []).2.length (ints (VF B (fun _=>false) [t] [] []).2)∧Step w0 H [] w' H [en]):=by
 have hS:=Step.refl hI;have hlB:=hB.len;refine enter [(.agg #[(.slice Ab B.length cb)]),(tv t A c)] func70 rfl ntmps70 rfl fun a ha=>?_;refine wp_seq (ab (lin rfl (aD (cs:= #[(.slice Ab B.length cb)]) hS ha rfl rfl rfl fun b1 a w hS ha=>?_)));refine lin rfl (aD (cs:=(tA t A c)) hS ha rfl rfl rfl fun b3 a w hS ha=>?_);refine Ls rfl ha fun a ha=>?_;refine wpList_nil (aa (wp_seq ?_));have hS_:=hS;refine As.c_draw_head (ini:=(As.il [])) (sup:=(As.sl [])) (als:= [5]) (s0:=⟨H,fun _=>none⟩) (L:= [(some b3,(.cells (tA t A c) 26 (0,0))),(some b1,(.cells #[(.slice Ab B.length cb)] 24 (0,0)))]) (N:=12) (E:= [(2,(pB b1)),(3,(pB b3))]) 6 [fun _ v=>v=(.agg #[(.slice Ab B.length cb)]),fun _ v=>v=(tv t A c),fun _ v=>v=(pB b1),fun _ v=>v=(.slice Ab B.length cb),fun _ v=>v=(iV ((B.length: Nat): Int)),fun s v=> ∃ b,s.ax 5=some [(some b,.cells (bls (List.replicate B.length false)).toArray 4 (0,0))]∧v=(.slice (some ⟨b,0,none⟩) B.length B.length)∧Row (.slice (some ⟨b,0,none⟩) B.length B.length) (some b,.cells (bls (List.replicate B.length false)).toArray 4 (0,0)) 4 1 B.length (bls (List.replicate B.length false))] mixed rfl rfl rfl (As.Monos.cons (fun _ _ _ _ h=>h) (As.Monos.cons (fun _ _ _ _ h=>h) (As.Monos.cons (fun _ _ _ _ h=>h) (As.Monos.cons (fun _ _ _ _ h=>h) (As.Monos.cons (fun _ _ _ _ h=>h) (As.Monos.cons (fun _ _ _ hl ⟨b,h,e⟩=>⟨b,hl.get h,e⟩) (As.Monos.nil))))))) (fun _=>rfl) hS (ha.pk rfl) (As.QuietsI.cons ?_ (As.QuietsI.cons ?_ (As.QuietsI.cons ?_ (As.QuietsI.cons ?_ (As.QuietsI.cons ?_ (As.QuietsI.cons ?_ (As.QuietsI.nil))))))) (fun f_ a w s_ hls hS ha hdr_=>?_)
 ·refine As.Qx rfl fun a w H_ ax_ hle hax_ hS ha hd hls=>?_;have hSf:=hS;have hS:=Step.dropN _ _ hS;refine id (ai (vs:= [(.slice Ab B.length cb)]) T24 rfl ha rfl (hS.blkL 1 rfl) rfl (ag rfl) rfl fun a ha=>?_);exact As.qdone (s:=⟨H_,ax_⟩) (Le.refl _) ha hSf rfl
 ·refine As.Qx rfl fun a w H_ ax_ hle hax_ hS ha hd hls=>?_;have hSf:=hS;have hS:=Step.dropN _ _ hS;refine id (ai (vs:=(tL t A c)) T26 rfl ha rfl (hS.blkL 0 rfl) rfl (ag rfl) rfl fun a ha=>?_);exact As.qdone (s:=⟨H_,ax_⟩) (Le.refl _) ha hSf rfl
 ·refine As.Qx rfl fun a w H_ ax_ hle hax_ hS ha hd hls=>?_;have hSf:=hS;refine id (ac (f:=0) (o2:=0) T24 T22 rfl rfl rfl rfl ha rfl rfl fun a ha=>?_);exact As.qdone (s:=⟨H_,ax_⟩) (Le.refl _) ha hSf rfl
 ·refine As.Qx rfl fun a w H_ ax_ hle hax_ hS ha hd hls=>?_;obtain⟨_,ha,rfl⟩:=hd.g ha 2 rfl;have hSf:=hS;have hS:=Step.dropN _ _ hS;refine id (ae (v:=(.slice Ab B.length cb)) T22 rfl ha rfl (hS.blkL 1 rfl) rfl rfl fun a ha=>?_);exact As.qdone (s:=⟨H_,ax_⟩) (Le.refl _) ha hSf rfl
 ·refine As.Qx rfl fun a w H_ ax_ hle hax_ hS ha hd hls=>?_;obtain⟨_,ha,rfl⟩:=hd.g ha 3 rfl;have hSf:=hS;have hSr:=Step.dropN _ _ hS;refine id (aH T22.und ha rfl rfl fun a ha=>?_);exact As.qdone (s:=⟨H_,ax_⟩) (Le.refl _) ha hS rfl
 ·refine As.Qx rfl fun a w H_ ax_ hle hax_ hS ha hd hls=>?_;obtain⟨_,ha,rfl⟩:=hd.g ha 4 rfl;have hS: Step w0 H [] w H_ ((As.aents (As.il []) (As.sl []) [] ax_++As.aents (As.il []) (As.sl []) [] ax_++ [(some b3,(.cells (tA t A c) 26 (0,0))),(some b1,(.cells #[(.slice Ab B.length cb)] 24 (0,0)))])):=As.opn (s:=⟨H_,ax_⟩) [] [5] [] [] rfl (As.con0 hax_ rfl) hS;refine id (dA (k:=B.length) T108.und T4 rfl rfl hS ha rfl rfl (by omega) (by omega) (by omega) rfl rfl fun b5 a w hR5 hS ha=>?_);rw [zcells_bool] at hR5 hS;exact As.qown (i:=5) (dst:=some 10) (s:=⟨H_,ax_⟩) (E:= [(some b5,.cells (bls (List.replicate B.length false)).toArray 4 (0,0))]) [] [5] [] rfl rfl hax_ (Le.refl _) ha.dfr (As.has_at ha) hS As.con1 ⟨_,rfl,rfl,hR5⟩
 obtain⟨H7,ax_⟩:=s_;have hle7: Le H H7:=hls.le;dsimp only at hdr_ hS;have hB:=hB.mono hle7;have hr:=hr.mono hle7;obtain⟨_,hv_,rfl⟩:=hdr_ 0 _ _ rfl rfl;have ha:=ha.add (hv_ _ rfl);obtain⟨_,hv_,rfl⟩:=hdr_ 1 _ _ rfl rfl;have ha:=ha.add (hv_ _ rfl);obtain⟨_,hv_,b5,hx_5,rfl,hR5⟩:=hdr_ 5 _ _ rfl rfl;have ha:=ha.add (hv_ _ rfl);have hx_5: ax_ 5=some [(some b5,.cells (bls (List.replicate B.length false)).toArray 4 (0,0))]:=hx_5;have hS: Step w0 H [] w H7 [(some b5,.cells (bls (List.replicate B.length false)).toArray 4 (0,0)),(some b3,(.cells (tA t A c) 26 (0,0))),(some b1,(.cells #[(.slice Ab B.length cb)] 24 (0,0)))]:=by
  have h_:=hS;unfold As.aents at h_;simp only [List.flatMap_cons,List.flatMap_nil,As.conE,show (As.sl []) 5=none from rfl,hx_5,Option.isSome_some,Option.getD_some,cond_true,cond_false,List.cons_append,List.nil_append,List.append_nil] at h_;exact h_
 have hS:=hS.cons_none (en:=noEnt) rfl;have hS:=hS.front 1 rfl;have hz_:=cv hot;have hzB_:=hG.szL;have hle_:=hG.le;have hus_: Us B []=Tm.szL B:=cj B 0;have hk9:=c_rwalk hG (t.sz+Us B ([])) t A c ([]) ([]: List Int) (List.replicate B.length false) (some ⟨b5,0,none⟩) none B.length 0 (some b5,.cells (bls (List.replicate B.length false)).toArray 4 (0,0)) noEnt _ _ (Inv.left (L:= [(some b5,.cells (bls (List.replicate B.length false)).toArray 4 (0,0)),noEnt]) hS.inv) _ _ (hB.at_ hS (eE [(some b5,.cells (bls (List.replicate B.length false)).toArray 4 (0,0)),noEnt] _)) hr (cX hot) (Nat.le_refl _) (by simp only [List.length_nil];omega) hR5 (Met.zero _) (show Row (.slice none ([]: List Int).length 0) noEnt 3 1 ([]: List Int).length (ints []) from Row.nil 3 1);refine any1 (i:=6) (by kernel_rfl) rfl rfl (ah func79 rfl rfl (ha.evs rfl) ha rfl (hk9) ?_);rintro e w ⟨A9,c9,em9,eo9,sn9,ou9,ms9,rfl,hRm9,hM9,hRo9,hW9,hc9⟩;refine⟨_,rfl,fun a ha=>?_⟩;have hS:=Step.frame (Lc:= [(some b5,.cells (bls (List.replicate B.length false)).toArray 4 (0,0)),noEnt]) hS hc9;have huw_:=hW9.u;have how_:=hW9.o;refine any1 (i:=7) (by kernel_rfl) rfl rfl (aC ha rfl rfl fun a ha=>?_);refine any0 (by kernel_rfl) ?_;refine aa (wp_ret (ret1 rfl ha rfl ?_));have hS:=hS.drop;have hS:=hS.front 1 rfl;have hS:=hS.drop;have hS:=hS.front 1 rfl;have hS:=hS.drop;have hv_:(VF B (fun _=>false) [t] [] []).2=ou9:=by rw [hW9.vf [] (fun u hu=>by cases hu)];rfl
 rw [hv_];exact⟨_,_,_,rfl,hRo9,hS.plain⟩
end Go.Vk.Tryz
namespace Go.Vk
def cmpA (g: Tm→Tm→Int→Bool × Int): List Tm→List Tm→Int→Bool × Int
 | x::xs,y::ys,left=>if (!(g x y left).1||decide ((g x y left).2 < 0))=true then (false,(g x y left).2) else cmpA g xs ys (g x y left).2
 | _,_,left=>(true,left)
def sameV (a b: Tm): Bool:=(decide (a.kind=1)&&decide (b.kind=1))&&decide (a.n=b.n)
def cmpF (B: List Tm): Nat→Tm→Tm→Int→Bool × Int
 | 0,_,_,_=>(false, -1)
 | f+1,a,b,left =>
  if left - 1 < 0 then (false, -1)
  else if sameV a b=true then (true,left - 1)
  else if (decide ((follow B a).kind=1)||decide ((follow B b).kind=1))=true then (decide ((follow B a).kind=(follow B b).kind)&&decide ((follow B a).n=(follow B b).n),left - 1)
  else if (!alkB (follow B a) (follow B b))=true then (false,left - 1)
  else cmpA (cmpF B f) (follow B a).l (follow B b).l (left - 1)
theorem cmpA_le {g : Tm → Tm → Int → Bool × Int} (hg : ∀ x y l, (g x y l).2 ≤ max l (-1)) : ∀ xs ys l, (cmpA g xs ys l).2 ≤ max l (-1)
  | [], _, l => by rw [cmpA]; · show l ≤ _; omega
                   · intros; simp_all
  | x :: xs, [], l => by rw [cmpA]; · show l ≤ _; omega
                         · intros; simp_all
  | x :: xs, y :: ys, l => by
    have h1 := hg x y l
    rw [cmpA]
    split
    · exact h1
    · have := cmpA_le hg xs ys (g x y l).2
      omega
theorem cmpF_le (B: List Tm): ∀(f: Nat) (a b: Tm) (l: Int),(cmpF B f a b l).2≤max l (-1)
 | 0,a,b,l=>by rw [cmpF];show (-1: Int)≤_;omega
 | f+1,a,b,l=>by
  rw [cmpF]
  split
  ·show (-1: Int)≤_;omega
  ·split
   ·show l - 1≤_;omega
   ·split
    ·show l - 1≤_;omega
    ·split
     ·show l - 1≤_;omega
     ·have:=cmpA_le (cmpF_le B f) (follow B a).l (follow B b).l (l - 1);omega
structure CW (B: List Tm) (k: Nat) (qs: List (Tm × Tm)) (ps: List (Tm × Tm)) (r: Bool × Int): Prop where
 t: r.1=true→∃ k': Nat,r.2=(k': Int)∧k'≤k∧wlk (fun _: Unit=>B) bdE k (qs++ps) ()=wlk (fun _: Unit=>B) bdE k' ps ()
 n: r.1=false→r.2 < 0→(wlk (fun _: Unit=>B) bdE k (qs++ps) ()).1=(false,2)
 p: r.1=false→0≤r.2→(wlk (fun _: Unit=>B) bdE k (qs++ps) ()).1=(false,0)
theorem CW.yes {B: List Tm} {k k': Nat} {qs ps: List (Tm × Tm)} (hk: k'≤k) (h: wlk (fun _: Unit=>B) bdE k (qs++ps) ()=wlk (fun _: Unit=>B) bdE k' ps ()): CW B k qs ps (true,(k': Int)):=
 ⟨fun _=>⟨k',rfl,hk,h⟩,fun h=>(by cases h),fun h=>(by cases h)⟩
theorem CW.no {B: List Tm} {k k': Nat} {qs ps: List (Tm × Tm)} (h:(wlk (fun _: Unit=>B) bdE k (qs++ps) ()).1=(false,0)): CW B k qs ps (false,(k': Int)):=
 ⟨fun h=>(by cases h),fun _ h=>(by simp at h;omega),fun _ _=>h⟩
theorem cmpA_cw {B: List Tm} {g: Tm→Tm→Int→Bool × Int} {K: Nat} (hg: ∀(k: Nat) x y ps,k≤K→CW B k [(x,y)] ps (g x y (k: Int))): ∀(xs ys: List Tm) (k: Nat) (ps: List (Tm × Tm)),xs.length=ys.length→k≤K→CW B k (xs.zip ys) ps (cmpA g xs ys (k: Int))
 | [], [],k,ps,_,_=>by
  rw [cmpA]
  ·exact CW.yes (Nat.le_refl _) rfl
  ·intros;simp_all
 | [],y::ys,k,ps,h,_=>by simp at h
 | x::xs, [],k,ps,h,_=>by simp at h
 | x::xs,y::ys,k,ps,h,hk=>by
  have h1:=hg k x y (xs.zip ys++ps) hk;rw [List.zip_cons_cons,cmpA]
  split
  ·rename_i hc
   have e: [(x,y)]++(xs.zip ys++ps)=(x,y)::xs.zip ys++ps:=rfl;rw [← show (x,y)::xs.zip ys++ps= [(x,y)]++(xs.zip ys++ps) from rfl] at *
   cases h2:(g x y (k: Int)).1 with
   | true =>
    obtain⟨k',h3,_⟩:=h1.t h2;rw [h2,h3] at hc;simp at hc;omega
   | false=>exact ⟨fun h=>(by cases h),fun _ hn=>h1.n h2 hn,fun _ hp=>h1.p h2 hp⟩
  ·rename_i hc
   simp only [Bool.or_eq_true,Bool.not_eq_true',decide_eq_true_eq,not_or,Bool.not_eq_false] at hc;obtain⟨k',h3,h4,h5⟩:=h1.t hc.1;rw [h3];have ih:=cmpA_cw hg xs ys k' ps (by simpa using h) (by omega);have e: wlk (fun _: Unit=>B) bdE k (((x,y)::xs.zip ys)++ps) ()=wlk (fun _: Unit=>B) bdE k' (xs.zip ys++ps) ():=h5;refine⟨fun ht=>?_,fun hf hn=>?_,fun hf hp=>?_⟩
   ·obtain⟨k2,h6,h7,h8⟩:=ih.t ht;exact⟨k2,h6,by omega,e.trans h8⟩
   ·rw [e];exact ih.n hf hn
   ·rw [e];exact ih.p hf hp
theorem cmpF_cw (B: List Tm): ∀(f: Nat) (k: Nat) (a b: Tm) (ps: List (Tm × Tm)),k < f→CW B k [(a,b)] ps (cmpF B f a b (k: Int))
 | 0,k,a,b,ps,h=>by omega
 | f+1,0,a,b,ps,_=>by
  rw [cmpF,if_pos (by omega)];exact⟨fun h=>(by cases h),fun _ _=>rfl,fun _ h=>by simp at h⟩
 | f+1,k+1,a,b,ps,hk=>by
  have hl:((k+1: Nat): Int) - 1=(k: Int):=by omega
  rw [cmpF,hl,if_neg (by omega)]
  split
  ·rename_i h1
   exact CW.yes (by omega) (wlk_same (Bof:=fun _: Unit=>B) (bd:=bdE) (s:=()) h1)
  ·rename_i h1
   have h1:=same_false h1
   split
   ·rename_i h2
    by_cases hx:(follow B a).kind=1
    ·by_cases hy:(follow B b).kind=1
     ·have h3:(decide ((follow B a).kind=1)&&decide ((follow B b).kind=1))=true:=by rw [decide_eq_true hx,decide_eq_true hy];rfl
      by_cases hn:(follow B a).n=(follow B b).n
      ·rw [hx,hy,decide_eq_true rfl,decide_eq_true hn];exact CW.yes (by omega) (wlk_vs (Bof:=fun _: Unit=>B) (bd:=bdE) (s:=()) h1 h3 hn)
      ·rw [hx,hy,decide_eq_true rfl,decide_eq_false hn];exact CW.no (by rw [List.cons_append,List.nil_append,wlk_vf (Bof:=fun _: Unit=>B) (bd:=bdE) (s:=()) h1 h3 hn rfl])
     ·rw [decide_eq_false (show ¬(follow B a).kind=(follow B b).kind from fun h=>hy (h ▸ hx)),Bool.false_and];exact CW.no (by rw [List.cons_append,List.nil_append,wlk_xf (Bof:=fun _: Unit=>B) (bd:=bdE) (s:=()) h1 (by rw [decide_eq_true hx,decide_eq_false hy];rfl) hx rfl])
    ·have hy:(follow B b).kind=1:=by simpa [hx] using h2
     rw [decide_eq_false (show ¬(follow B a).kind=(follow B b).kind from fun h=>hx (h.trans hy)),Bool.false_and];exact CW.no (by rw [List.cons_append,List.nil_append,wlk_yf (Bof:=fun _: Unit=>B) (bd:=bdE) (s:=()) h1 hx hy rfl])
   ·rename_i h2
    simp only [Bool.or_eq_true,decide_eq_true_eq,not_or] at h2
    split
    ·rename_i h3
     exact CW.no (by rw [List.cons_append,List.nil_append,wlk_nf (Bof:=fun _: Unit=>B) (bd:=bdE) (s:=()) h1 h2.1 h2.2 (by simpa using h3)])
    ·rename_i h3
     have h3: alkB (follow B a) (follow B b)=true:=by simpa using h3
     have ih:=cmpA_cw (B:=B) (g:=cmpF B f) (K:=k) (fun k' x y ps' hk'=>cmpF_cw B f k' x y ps' (by omega)) (follow B a).l (follow B b).l k ps (alk_parts h3).2.2.2 (Nat.le_refl _);have e: wlk (fun _: Unit=>B) bdE (k+1) ([(a,b)]++ps) ()=wlk (fun _: Unit=>B) bdE k ((follow B a).l.zip (follow B b).l++ps) ():=wlk_nt (Bof:=fun _: Unit=>B) (bd:=bdE) (s:=()) h1 h2.1 h2.2 h3;refine⟨fun ht=>?_,fun hf hn=>?_,fun hf hp=>?_⟩
     ·obtain⟨k2,h6,h7,h8⟩:=ih.t ht;exact⟨k2,h6,by omega,e.trans h8⟩
     ·rw [e];exact ih.n hf hn
     ·rw [e];exact ih.p hf hp
theorem cmp_eqW (B: List Tm) (a b: Tm): eqW B a b=(if (cmpF B 20001 a b 20000).2 < 0 then (false,2) else ((cmpF B 20001 a b 20000).1,0)):=by
 have h:=cmpF_cw B 20001 20000 a b [] (by decide);have e:(cmpF B 20001 a b ((20000: Nat): Int))=cmpF B 20001 a b 20000:=rfl;rw [e] at h;unfold eqW
 cases h1:(cmpF B 20001 a b 20000).1 with
 | true =>
  obtain⟨k',h2,_,h3⟩:=h.t h1;rw [if_neg (by omega),show ([(a,b)]: List (Tm × Tm))= [(a,b)]++ [] from rfl,h3,wlk_nil]
 | false =>
  by_cases h2:(cmpF B 20001 a b 20000).2 < 0
  ·rw [if_pos h2];exact h.n h1 h2
  ·rw [if_neg h2];exact h.p h1 (by omega)
end Go.Vk
namespace Go.Vk.Tryz
open Go.RowKit
theorem cmpA_next {g: Tm→Tm→Int→Bool × Int} {xs ys: List Tm} {k: Nat} {x y: Tm} {l: Int} (hx: xs[k]? =some x) (hy: ys[k]? =some y) (h:((!(g x y l).1)||decide ((g x y l).2 < 0))=false): cmpA g (xs.drop k) (ys.drop k) l=cmpA g (xs.drop (k+1)) (ys.drop (k+1)) (g x y l).2:=by
 rw [aI hx,aI hy,cmpA,if_neg (by rw [h];simp)]
theorem cmpA_stop {g: Tm→Tm→Int→Bool × Int} {xs ys: List Tm} {k: Nat} {x y: Tm} {l: Int} (hx: xs[k]? =some x) (hy: ys[k]? =some y) (h:((!(g x y l).1)||decide ((g x y l).2 < 0))=true): cmpA g (xs.drop k) (ys.drop k) l=(false,(g x y l).2):=by
 rw [aI hx,aI hy,cmpA,if_pos h]
theorem cmpA_end {g: Tm→Tm→Int→Bool × Int} {xs ys: List Tm} {k: Nat} {l: Int} (hx: xs.length≤k): cmpA g (xs.drop k) (ys.drop k) l=(true,l):=by
 rw [List.drop_of_length_le hx,cmpA]
 intros;simp_all
theorem cmp_ok {B: List Tm} {f: Nat} {x y: Tm} {l: Int} (hl: 0≤l) (h:((!(cmpF B f x y l).1)||decide ((cmpF B f x y l).2 < 0))=false): 0≤(cmpF B f x y l).2∧(cmpF B f x y l).2≤l:=by
 simp only [Bool.or_eq_false_iff,decide_eq_false_iff_not] at h;have:=cmpF_le B f x y l;omega
set_option maxHeartbeats 4000000 in
theorem c_compare {B: List Tm} (hG: Gst B.length B): ∀(f: Nat) (ta tb: Tm) (Aa: Option Addr) (ca: Nat) (A2: Option Addr) (c2: Nat) (left: Int) (w0: World) (H: PHeap),Inv w0 H []→∀(Ab: Option Addr) (cb: Nat),RowT H Ab cb B→RowT H Aa ca ta.l→RowT H A2 c2 tb.l→okT B.length ta=true→okT B.length tb=true→(0≤left∧left < f∧left≤20000)→Calls prog 108 #[(.agg #[(.slice Ab B.length cb)]),(tv ta Aa ca),(tv tb A2 c2),(iV left)] w0 (Rs w0 H (.tuple #[.bool (cmpF B f ta tb left).1,.int .i64 (cmpF B f ta tb left).2])):=by
 refine fun f=>Nat.strongRecOn f fun f ih=>?_;intro ta tb Aa ca A2 c2 left w0 H hI Ab cb hB hra hrb hota hotb hleft;obtain⟨f,rfl⟩: ∃ m,f=m+1:=⟨f - 1,by omega⟩;have hS:=Step.refl hI;have hlB:=hB.len;refine enter [(.agg #[(.slice Ab B.length cb)]),(tv ta Aa ca),(tv tb A2 c2),(iV left)] func108 rfl ntmps108 rfl fun a ha=>?_;refine wp_seq (ab (lin rfl (aD (cs:= #[(.slice Ab B.length cb)]) hS ha rfl rfl rfl fun b1 a w hS ha=>?_)));refine lin rfl (aD (cs:=(tA ta Aa ca)) hS ha rfl rfl rfl fun b3 a w hS ha=>?_);refine lin rfl (aD (cs:=(tA tb A2 c2)) hS ha rfl rfl rfl fun b5 a w hS ha=>?_);refine Ls rfl ha fun a ha=>?_;refine Ls rfl ha fun a ha=>?_;refine wpList_nil (aa (wp_seq (ab (Lm rfl ha fun a ha=>?_))));refine lin rfl (bh (i:=left) (j:=1) ha rfl rfl rfl (by omega) fun a ha=>?_);refine Ls rfl ha fun a ha=>?_;refine wpList_nil (aa (wp_seq (wp_seq (ab (Lm rfl ha fun a ha=>?_)))));refine lin rfl (aY (i:=(left - 1)) (j:=0) ha rfl rfl rfl fun a ha=>?_);refine wpList_nil (aa (al (t:=18) ha rfl (fun h7 ha=>?_) (fun h7 ha=>?_)))
 ·refine au ha rfl (wp_seq (ab (Ls rfl ha fun a ha=>?_)));refine Ls rfl ha fun a ha=>?_;refine wpList_nil (aa (wp_ret (ak (ret2 rfl ha rfl rfl ?_))));have hv_: cmpF B (f+1) ta tb left=(false,(-1)):=by rw [cmpF,if_pos h7]
  exact⟨by rw [hv_],hS.plain.drop_all⟩
 ·refine an ha rfl (wp_skip (aa (wp_seq (wp_seq (a7 (D:= []) (N:=99) (E:= [(3,(iV (left - 1))),(4,(pB b1)),(5,(pB b3)),(6,(pB b5)),(33,(.bool (((decide (ta.kind=1))&&(decide (tb.kind=1)))&&(decide (ta.n=tb.n)))))]) (fun a ha=>?_) ?_)))));rotate_left
  ·refine lin rfl (ac (f:=0) (o2:=0) T26 T3 rfl rfl rfl rfl ha rfl rfl fun a ha=>?_);refine lin rfl (ae (v:=(iV ta.kind)) T3 rfl ha rfl (hS.blkL 1 rfl) rfl rfl fun a ha=>?_);refine lin rfl (aT (i:=ta.kind) (j:=1) ha rfl rfl rfl fun a ha=>?_);refine Lm rfl ha fun a ha=>?_;refine al (t:=22) ha rfl (fun h8 ha=>?_) (fun h8 ha=>?_)
   ·refine af rfl ha rfl rfl rfl (ac (f:=0) (o2:=0) T26 T3 rfl rfl rfl rfl ha rfl rfl fun a ha=>?_);refine af rfl ha rfl rfl rfl (ae (v:=(iV tb.kind)) T3 rfl ha rfl (hS.blkL 0 rfl) rfl rfl fun a ha=>?_);refine af rfl ha rfl rfl rfl (aT (i:=tb.kind) (j:=1) ha rfl rfl rfl fun a ha=>?_);refine lin rfl (ao ha rfl rfl rfl fun a ha=>?_);refine Lm rfl ha fun a ha=>?_;refine al (t:=27) ha rfl (fun h9 ha=>?_) (fun h9 ha=>?_)
    ·refine af rfl ha rfl rfl rfl (ac (f:=1) (o2:=1) T26 T3 rfl rfl rfl rfl ha rfl rfl fun a ha=>?_);refine af rfl ha rfl rfl rfl (ae (v:=(iV ta.n)) T3 rfl ha rfl (hS.blkL 1 rfl) rfl rfl fun a ha=>?_);refine af rfl ha rfl rfl rfl (ac (f:=1) (o2:=1) T26 T3 rfl rfl rfl rfl ha rfl rfl fun a ha=>?_);refine af rfl ha rfl rfl rfl (ae (v:=(iV tb.n)) T3 rfl ha rfl (hS.blkL 0 rfl) rfl rfl fun a ha=>?_);refine af rfl ha rfl rfl rfl (aT (i:=ta.n) (j:=tb.n) ha rfl rfl rfl fun a ha=>?_);refine lin rfl (ao ha rfl rfl rfl fun a ha=>?_);have hj10:(((decide (ta.kind=1))&&(decide (tb.kind=1)))&&(decide (ta.n=tb.n)))=(decide (ta.n=tb.n)):=by
      try rw [decide_eq_true h8]
      try rw [decide_eq_true h9]
      rfl
     exact wpList_nil ⟨rfl,rfl,Has.cons ha rfl (Has.cons ha rfl (Has.cons ha rfl (Has.cons ha rfl (Has.cons ha (by rw [hj10];rfl) (ha.nil)))))⟩
    ·refine Lf rfl ha rfl rfl fun a ha=>?_;refine Lf rfl ha rfl rfl fun a ha=>?_;refine Lf rfl ha rfl rfl fun a ha=>?_;refine Lf rfl ha rfl rfl fun a ha=>?_;refine Lf rfl ha rfl rfl fun a ha=>?_;refine lin rfl (aj ha rfl rfl rfl fun a ha=>?_);have hj11:(((decide (ta.kind=1))&&(decide (tb.kind=1)))&&(decide (ta.n=tb.n)))=false:=by
      try rw [decide_eq_true h8]
      try rw [decide_eq_false h9]
      rfl
     exact wpList_nil ⟨rfl,rfl,Has.cons ha rfl (Has.cons ha rfl (Has.cons ha rfl (Has.cons ha rfl (Has.cons ha (by rw [hj11];rfl) (ha.nil)))))⟩
   ·refine Lf rfl ha rfl rfl fun a ha=>?_;refine Lf rfl ha rfl rfl fun a ha=>?_;refine Lf rfl ha rfl rfl fun a ha=>?_;refine lin rfl (aj ha rfl rfl rfl fun a ha=>?_);refine Lm rfl ha fun a ha=>?_;refine Lf rfl ha rfl rfl fun a ha=>?_;refine Lf rfl ha rfl rfl fun a ha=>?_;refine Lf rfl ha rfl rfl fun a ha=>?_;refine Lf rfl ha rfl rfl fun a ha=>?_;refine Lf rfl ha rfl rfl fun a ha=>?_;refine lin rfl (aj ha rfl rfl rfl fun a ha=>?_);have hj12:(((decide (ta.kind=1))&&(decide (tb.kind=1)))&&(decide (ta.n=tb.n)))=false:=by
     try rw [decide_eq_false h8]
     rfl
    exact wpList_nil ⟨rfl,rfl,Has.cons ha rfl (Has.cons ha rfl (Has.cons ha rfl (Has.cons ha rfl (Has.cons ha (by rw [hj12];rfl) (ha.nil)))))⟩
  refine aa (ar (t:=33) ha rfl (fun h13 ha=>?_) (fun h13 ha=>?_))
  ·refine au ha rfl (wp_seq (ab (Lm rfl ha fun a ha=>?_)));refine Ls rfl ha fun a ha=>?_;refine Ls rfl ha fun a ha=>?_;refine wpList_nil (aa (wp_ret (ak (ret2 rfl ha rfl rfl ?_))));have hv_: cmpF B (f+1) ta tb left=(true,(left - 1)):=by rw [cmpF,if_neg h7,if_pos (show sameV ta tb=true from h13)]
   exact⟨by rw [hv_],hS.plain.drop_all⟩
  ·refine an ha rfl (wp_skip (aa (wp_seq (ab (lin rfl (ai (vs:= [(.slice Ab B.length cb)]) T24 rfl ha rfl (hS.blkL 2 rfl) rfl (ag rfl) rfl fun a ha=>?_))))));refine lin rfl (ai (vs:=(tL ta Aa ca)) T26 rfl ha rfl (hS.blkL 1 rfl) rfl (ag rfl) rfl fun a ha=>?_);have hk15:=dm hS.inv.nil (RdT.of_row hS.inv.nil hB) hG.dec hra (bX hG hota);refine lin rfl (ah func65 rfl rfl (ha.evs rfl) ha rfl (hk15) ?_);rintro e w ⟨A14,c14,rfl,hr14,hc14⟩;refine⟨_,rfl,fun a ha=>?_⟩;have hS:=hS.call hc14;have hlr14:=hr14.len;have hofta:=(bt hG hota).1;refine lin rfl (aE (cs:=aZ) T26 hS ha rfl rfl fun b16 a w hS ha=>?_);refine lin rfl (av (cs':=(tA ((follow B ta)) A14 c14)) T26 hS (i:=0) rfl ha rfl rfl rfl rfl rfl rfl fun a w hS ha=>?_);refine wpList_nil (aa (wp_seq (ab (lin rfl (ai (vs:= [(.slice Ab B.length cb)]) T24 rfl ha rfl (hS.blkL 3 rfl) rfl (ag rfl) rfl fun a ha=>?_)))));refine lin rfl (ai (vs:=(tL tb A2 c2)) T26 rfl ha rfl (hS.blkL 1 rfl) rfl (ag rfl) rfl fun a ha=>?_);have hk19:=dm hS.inv.nil (RdT.of_row hS.inv.nil hB) hG.dec hrb (bX hG hotb);refine lin rfl (ah func65 rfl rfl (ha.evs rfl) ha rfl (hk19) ?_);rintro e w ⟨A18,c18,rfl,hr18,hc18⟩;refine⟨_,rfl,fun a ha=>?_⟩;have hS:=hS.call hc18;have hlr18:=hr18.len;have hoftb:=(bt hG hotb).1;refine lin rfl (aE (cs:=aZ) T26 hS ha rfl rfl fun b20 a w hS ha=>?_);refine lin rfl (av (cs':=(tA ((follow B tb)) A18 c18)) T26 hS (i:=0) rfl ha rfl rfl rfl rfl rfl rfl fun a w hS ha=>?_);refine wpList_nil (aa (wp_seq (wp_seq (a7 (D:= []) (N:=99) (E:= [(3,(iV (left - 1))),(4,(pB b1)),(10,(pB b16)),(11,(pB b20)),(48,(.bool ((decide ((((follow B ta)).kind)=1))||(decide ((((follow B tb)).kind)=1)))))]) (fun a ha=>?_) ?_))));rotate_left
   ·refine lin rfl (ac (f:=0) (o2:=0) T26 T3 rfl rfl rfl rfl ha rfl rfl fun a ha=>?_);refine lin rfl (ae (v:=(iV (((follow B ta)).kind))) T3 rfl ha rfl (hS.blkL 1 rfl) rfl rfl fun a ha=>?_);refine lin rfl (aT (i:=(((follow B ta)).kind)) (j:=1) ha rfl rfl rfl fun a ha=>?_);refine Lm rfl ha fun a ha=>?_;refine al (t:=44) ha rfl (fun h22 ha=>?_) (fun h22 ha=>?_)
    ·refine Lf rfl ha rfl rfl fun a ha=>?_;refine Lf rfl ha rfl rfl fun a ha=>?_;refine Lf rfl ha rfl rfl fun a ha=>?_;refine lin rfl (ao ha rfl rfl rfl fun a ha=>?_);have hj23:((decide ((((follow B ta)).kind)=1))||(decide ((((follow B tb)).kind)=1)))=true:=by
      try rw [decide_eq_true h22]
      rfl
     exact wpList_nil ⟨rfl,rfl,Has.cons ha rfl (Has.cons ha rfl (Has.cons ha rfl (Has.cons ha rfl (Has.cons ha (by rw [hj23];rfl) (ha.nil)))))⟩
    ·refine af rfl ha rfl rfl rfl (ac (f:=0) (o2:=0) T26 T3 rfl rfl rfl rfl ha rfl rfl fun a ha=>?_);refine af rfl ha rfl rfl rfl (ae (v:=(iV (((follow B tb)).kind))) T3 rfl ha rfl (hS.blkL 0 rfl) rfl rfl fun a ha=>?_);refine af rfl ha rfl rfl rfl (aT (i:=(((follow B tb)).kind)) (j:=1) ha rfl rfl rfl fun a ha=>?_);refine lin rfl (aj ha rfl rfl rfl fun a ha=>?_);have hj24:((decide ((((follow B ta)).kind)=1))||(decide ((((follow B tb)).kind)=1)))=(decide ((((follow B tb)).kind)=1)):=by
      try rw [decide_eq_false h22]
      rfl
     exact wpList_nil ⟨rfl,rfl,Has.cons ha rfl (Has.cons ha rfl (Has.cons ha rfl (Has.cons ha rfl (Has.cons ha (by rw [hj24];rfl) (ha.nil)))))⟩
   refine aa (ar (t:=48) ha rfl (fun h25 ha=>?_) (fun h25 ha=>?_))
   ·refine au ha rfl (wp_seq (ab (lin rfl (ac (f:=0) (o2:=0) T26 T3 rfl rfl rfl rfl ha rfl rfl fun a ha=>?_))));refine lin rfl (ae (v:=(iV (((follow B ta)).kind))) T3 rfl ha rfl (hS.blkL 1 rfl) rfl rfl fun a ha=>?_);refine lin rfl (ac (f:=0) (o2:=0) T26 T3 rfl rfl rfl rfl ha rfl rfl fun a ha=>?_);refine lin rfl (ae (v:=(iV (((follow B tb)).kind))) T3 rfl ha rfl (hS.blkL 0 rfl) rfl rfl fun a ha=>?_);refine lin rfl (aT (i:=(((follow B ta)).kind)) (j:=(((follow B tb)).kind)) ha rfl rfl rfl fun a ha=>?_);refine Lm rfl ha fun a ha=>?_;refine al (t:=54) ha rfl (fun h26 ha=>?_) (fun h26 ha=>?_)
    ·refine af rfl ha rfl rfl rfl (ac (f:=1) (o2:=1) T26 T3 rfl rfl rfl rfl ha rfl rfl fun a ha=>?_);refine af rfl ha rfl rfl rfl (ae (v:=(iV (((follow B ta)).n))) T3 rfl ha rfl (hS.blkL 1 rfl) rfl rfl fun a ha=>?_);refine af rfl ha rfl rfl rfl (ac (f:=1) (o2:=1) T26 T3 rfl rfl rfl rfl ha rfl rfl fun a ha=>?_);refine af rfl ha rfl rfl rfl (ae (v:=(iV (((follow B tb)).n))) T3 rfl ha rfl (hS.blkL 0 rfl) rfl rfl fun a ha=>?_);refine af rfl ha rfl rfl rfl (aT (i:=(((follow B ta)).n)) (j:=(((follow B tb)).n)) ha rfl rfl rfl fun a ha=>?_);refine lin rfl (ao ha rfl rfl rfl fun a ha=>?_);refine Lm rfl ha fun a ha=>?_;refine Ls rfl ha fun a ha=>?_;refine Ls rfl ha fun a ha=>?_;refine wpList_nil (aa (wp_ret (ak (ret2 rfl ha rfl rfl ?_))));have hv_: cmpF B (f+1) ta tb left=((decide ((((follow B ta)).n)=(((follow B tb)).n))),(left - 1)):=by rw [cmpF,if_neg h7,if_neg (by rw [show sameV ta tb=false from h13];simp),if_pos h25];rw [decide_eq_true h26];rfl
     exact⟨by rw [hv_],hS.plain.drop_all⟩
    ·refine Lf rfl ha rfl rfl fun a ha=>?_;refine Lf rfl ha rfl rfl fun a ha=>?_;refine Lf rfl ha rfl rfl fun a ha=>?_;refine Lf rfl ha rfl rfl fun a ha=>?_;refine Lf rfl ha rfl rfl fun a ha=>?_;refine lin rfl (aj ha rfl rfl rfl fun a ha=>?_);refine Lm rfl ha fun a ha=>?_;refine Ls rfl ha fun a ha=>?_;refine Ls rfl ha fun a ha=>?_;refine wpList_nil (aa (wp_ret (ak (ret2 rfl ha rfl rfl ?_))));have hv_: cmpF B (f+1) ta tb left=(false,(left - 1)):=by rw [cmpF,if_neg h7,if_neg (by rw [show sameV ta tb=false from h13];simp),if_pos h25];rw [decide_eq_false h26];rfl
     exact⟨by rw [hv_],hS.plain.drop_all⟩
   ·refine an ha rfl (wp_skip (aa (wp_seq (wp_seq (ab (lin rfl (ai (vs:=(tL ((follow B ta)) A14 c14)) T26 rfl ha rfl (hS.blkL 1 rfl) rfl (ag rfl) rfl fun a ha=>?_)))))));refine lin rfl (ai (vs:=(tL ((follow B tb)) A18 c18)) T26 rfl ha rfl (hS.blkL 0 rfl) rfl (ag rfl) rfl fun a ha=>?_);have hk27:=c_Fit hS.inv.nil hr14 hr18;refine lin rfl (ah func113 rfl rfl (ha.evs rfl) ha rfl (hk27) ?_);rintro e w ⟨rfl,hc⟩;refine⟨_,rfl,fun a ha=>?_⟩;have hS:=hS.call hc;refine lin rfl (aO ha rfl rfl fun a ha=>?_);refine wpList_nil (aa (ar (t:=65) ha rfl (fun h28 ha=>?_) (fun h28 ha=>?_)))
    ·refine au ha rfl (wp_seq (ab (Lm rfl ha fun a ha=>?_)));refine Ls rfl ha fun a ha=>?_;refine Ls rfl ha fun a ha=>?_;refine wpList_nil (aa (wp_ret (ak (ret2 rfl ha rfl rfl ?_))));have hv_: cmpF B (f+1) ta tb left=(false,(left - 1)):=by rw [cmpF,if_neg h7,if_neg (by rw [show sameV ta tb=false from h13];simp),if_neg (by rw [h25];simp),if_pos h28]
     exact⟨by rw [hv_],hS.plain.drop_all⟩
    ·have hal_:(follow B ta).l.length=(follow B tb).l.length:=(alk_parts (by simpa using h28)).2.2.2;refine an ha rfl (wp_skip (aa (wp_seq (wp_seq (ab (Ls rfl ha fun a ha=>?_))))));refine wpList_nil (aa (wp_block (aP (fun nn_ a w=> ∃(k: Nat),∃(lv: Int),nn_=(follow B ta).l.length - k∧Has [] a 99 [(3,(iV lv)),(4,(pB b1)),(10,(pB b16)),(11,(pB b20)),(12,(iV ((k: Nat): Int)))]∧Step w0 H [] w H [(some b20,(.cells (tA ((follow B tb)) A18 c18) 26 (0,0))),(some b16,(.cells (tA ((follow B ta)) A14 c14) 26 (0,0))),(some b5,(.cells (tA tb A2 c2) 26 (0,0))),(some b3,(.cells (tA ta Aa ca) 26 (0,0))),(some b1,(.cells #[(.slice Ab B.length cb)] 24 (0,0)))]∧(k≤(follow B ta).l.length)∧(0≤lv∧lv≤left - 1)∧(cmpA (cmpF B f) (follow B ta).l (follow B tb).l (left - 1)=cmpA (cmpF B f) ((follow B ta).l.drop k) ((follow B tb).l.drop k) lv)) _ ⟨0,(left - 1),rfl,ha.pk rfl,hS,(by omega),(by omega),rfl⟩ ?_)));intro n29 a w hh;obtain⟨k,lv,hn29,ha,hS,hk,hlv,hW⟩:=hh;refine wp_seq (wp_seq (ab (Lm rfl ha fun a ha=>?_)));refine lin rfl (ac (f:=3) (o2:=3) T26 T22 rfl rfl rfl rfl ha rfl rfl fun a ha=>?_);refine lin rfl (ae (v:=(.slice A14 (((follow B ta)).l.length) c14)) T22 rfl ha rfl (hS.blkL 1 rfl) rfl rfl fun a ha=>?_);refine lin rfl (aH T22.und ha rfl rfl fun a ha=>?_);refine lin rfl (aY (i:=((k: Nat): Int)) (j:=((((follow B ta)).l.length: Nat): Int)) ha rfl rfl rfl fun a ha=>?_);refine wpList_nil (aa (al (t:=71) ha rfl (fun h30 ha=>?_) (fun h30 ha=>?_)))
     ·refine au ha rfl (wp_skip (aa (wp_seq (wp_block (wp_seq ?_)))));have hS_:=hS;obtain⟨t31,b31,off31,e31,cs31,fz31,A31,c31,ht31,hA31,hb31,hc31,hr31⟩:=hr14.get (j:=k) (by omega);obtain⟨t32,b32,off32,e32,cs32,fz32,A32,c32,ht32,hA32,hb32,hc32,hr32⟩:=hr18.get (j:=k) (by omega);refine bA bp [fun _ v=>v=(.agg #[(.slice Ab B.length cb)]),fun _ v=>v=(.pointer (some ⟨b16,3,none⟩)),fun _ v=>v=(.slice A14 (((follow B ta)).l.length) c14),fun _ v=>v=(iV ((k: Nat): Int)),fun _ v=>v=(.pointer (some ⟨b31,off31+k * 4,none⟩)),fun _ v=>v=(tv t31 A31 c31),fun _ v=>v=(.pointer (some ⟨b20,3,none⟩)),fun _ v=>v=(.slice A18 (((follow B tb)).l.length) c18),fun _ v=>v=(iV ((k: Nat): Int)),fun _ v=>v=(.pointer (some ⟨b32,off32+k * 4,none⟩)),fun _ v=>v=(tv t32 A32 c32),fun _ v=>v=(iV lv),fun _ v=>v=(.tuple #[(.bool ((cmpF B f t31 t32 lv).1)),(iV ((cmpF B f t31 t32 lv).2))]),fun _ v=>v=(.tuple #[(.bool ((cmpF B f t31 t32 lv).1)),(iV ((cmpF B f t31 t32 lv).2))]),fun _ v=>v=(.bool ((cmpF B f t31 t32 lv).1)),fun _ v=>v=(iV ((cmpF B f t31 t32 lv).2)),fun _ v=>v=(.bool ((cmpF B f t31 t32 lv).1)),fun _ v=>v=(iV ((cmpF B f t31 t32 lv).2))] (N:=99) (E:= [(3,(iV lv)),(4,(pB b1)),(10,(pB b16)),(11,(pB b20)),(12,(iV ((k: Nat): Int)))]) mixed rfl (Monos.cons (fun _ _ _ _ h=>h) (Monos.cons (fun _ _ _ _ h=>h) (Monos.cons (fun _ _ _ _ h=>h) (Monos.cons (fun _ _ _ _ h=>h) (Monos.cons (fun _ _ _ _ h=>h) (Monos.cons (fun _ _ _ _ h=>h) (Monos.cons (fun _ _ _ _ h=>h) (Monos.cons (fun _ _ _ _ h=>h) (Monos.cons (fun _ _ _ _ h=>h) (Monos.cons (fun _ _ _ _ h=>h) (Monos.cons (fun _ _ _ _ h=>h) (Monos.cons (fun _ _ _ _ h=>h) (Monos.cons (fun _ _ _ _ h=>h) (Monos.cons (fun _ _ _ _ h=>h) (Monos.cons (fun _ _ _ _ h=>h) (Monos.cons (fun _ _ _ _ h=>h) (Monos.cons (fun _ _ _ _ h=>h) (Monos.cons (fun _ _ _ _ h=>h) (Monos.nil))))))))))))))))))) hS (ha.pk rfl) (.cons ?_ (.cons ?_ (.cons ?_ (.cons ?_ (.cons ?_ (.cons ?_ (.cons ?_ (.cons ?_ (.cons ?_ (.cons ?_ (.cons ?_ (.cons ?_ (.cons ?_ (.cons ?_ (.cons ?_ (.cons ?_ (.cons ?_ (.cons ?_ (.nil))))))))))))))))))) (fun a w H34 hle34 hS ha hdr_=>?_)
      ·refine Qz rfl fun a w hS ha hd=>?_;refine id (ai (vs:= [(.slice Ab B.length cb)]) T24 rfl ha rfl (hS.blkL 4 rfl) rfl (ag rfl) rfl fun a ha=>?_);exact qdone rfl ha hS rfl
      ·refine Qz rfl fun a w hS ha hd=>?_;refine id (ac (f:=3) (o2:=3) T26 T22 rfl rfl rfl rfl ha rfl rfl fun a ha=>?_);exact qdone rfl ha hS rfl
      ·refine Qz rfl fun a w hS ha hd=>?_;obtain⟨_,ha,rfl⟩:=hd.g ha 1 rfl;refine id (ae (v:=(.slice A14 (((follow B ta)).l.length) c14)) T22 rfl ha rfl (hS.blkL 1 rfl) rfl rfl fun a ha=>?_);exact qdone rfl ha hS (by first |(rw [decide_eq_true hr14] <;> rfl) |(rw [decide_eq_false hr14] <;> rfl) |(rw [hr14] <;> rfl) | simp [hr14])
      ·refine Qz rfl fun a w hS ha hd=>?_;refine id (am ha rfl rfl fun a ha=>?_);exact qdone rfl ha hS rfl
      ·refine Qz rfl fun a w hS ha hd=>?_;obtain⟨_,ha,rfl⟩:=hd.g ha 2 rfl;obtain⟨_,ha,rfl⟩:=hd.g ha 3 rfl;refine id (aw (b:=b31) (o:=off31) (j:=k) T22.und T26 hA31 ha rfl rfl (by omega) (by omega) rfl fun a ha=>?_);exact qdone rfl ha hS rfl
      ·refine Qz rfl fun a w hS ha hd=>?_;obtain⟨_,ha,rfl⟩:=hd.g ha 4 rfl;refine id (ai (vs:=(tL t31 A31 c31)) T26 rfl ha rfl (hS.blkH hb31) rfl hc31 rfl fun a ha=>?_);exact qdone rfl ha hS rfl
      ·refine Qz rfl fun a w hS ha hd=>?_;refine id (ac (f:=3) (o2:=3) T26 T22 rfl rfl rfl rfl ha rfl rfl fun a ha=>?_);exact qdone rfl ha hS rfl
      ·refine Qz rfl fun a w hS ha hd=>?_;obtain⟨_,ha,rfl⟩:=hd.g ha 6 rfl;refine id (ae (v:=(.slice A18 (((follow B tb)).l.length) c18)) T22 rfl ha rfl (hS.blkL 0 rfl) rfl rfl fun a ha=>?_);exact qdone rfl ha hS (by first |(rw [decide_eq_true hr18] <;> rfl) |(rw [decide_eq_false hr18] <;> rfl) |(rw [hr18] <;> rfl) | simp [hr18])
      ·refine Qz rfl fun a w hS ha hd=>?_;refine id (am ha rfl rfl fun a ha=>?_);exact qdone rfl ha hS rfl
      ·refine Qz rfl fun a w hS ha hd=>?_;obtain⟨_,ha,rfl⟩:=hd.g ha 7 rfl;obtain⟨_,ha,rfl⟩:=hd.g ha 8 rfl;refine id (aw (b:=b32) (o:=off32) (j:=k) T22.und T26 hA32 ha rfl rfl (by omega) (by omega) rfl fun a ha=>?_);exact qdone rfl ha hS rfl
      ·refine Qz rfl fun a w hS ha hd=>?_;obtain⟨_,ha,rfl⟩:=hd.g ha 9 rfl;refine id (ai (vs:=(tL t32 A32 c32)) T26 rfl ha rfl (hS.blkH hb32) rfl hc32 rfl fun a ha=>?_);exact qdone rfl ha hS rfl
      ·refine Qz rfl fun a w hS ha hd=>?_;refine id (am ha rfl rfl fun a ha=>?_);exact qdone rfl ha hS rfl
      ·refine Qz rfl fun a w hS ha hd=>?_;obtain⟨_,ha,rfl⟩:=hd.g ha 0 rfl;obtain⟨_,ha,rfl⟩:=hd.g ha 5 rfl;obtain⟨_,ha,rfl⟩:=hd.g ha 10 rfl;obtain⟨_,ha,rfl⟩:=hd.g ha 11 rfl;have hk33:=ih f (by omega) t31 t32 A31 c31 A32 c32 lv _ _ hS.inv.nil _ _ hB hr31 hr32 (dt hofta (List.mem_of_getElem? ht31)) (dt hoftb (List.mem_of_getElem? ht32)) (by omega);refine id (ah func108 rfl rfl (ha.evs rfl) ha rfl (hk33) ?_);rintro e w ⟨rfl,hc⟩;refine⟨_,rfl,fun a ha=>?_⟩;have hS:=hS.call hc;exact qdone rfl ha hS rfl
      ·refine Qz rfl fun a w hS ha hd=>?_;obtain⟨_,ha,rfl⟩:=hd.g ha 12 rfl;refine id (am ha rfl rfl fun a ha=>?_);exact qdone rfl ha hS rfl
      ·refine Qz rfl fun a w hS ha hd=>?_;obtain⟨_,ha,rfl⟩:=hd.g ha 13 rfl;refine id (aq (v:=(.bool ((cmpF B f t31 t32 lv).1))) ha rfl rfl rfl fun a ha=>?_);exact qdone rfl ha hS rfl
      ·refine Qz rfl fun a w hS ha hd=>?_;obtain⟨_,ha,rfl⟩:=hd.g ha 13 rfl;refine id (aq (v:=(iV ((cmpF B f t31 t32 lv).2))) ha rfl rfl rfl fun a ha=>?_);exact qdone rfl ha hS rfl
      ·refine Qz rfl fun a w hS ha hd=>?_;obtain⟨_,ha,rfl⟩:=hd.g ha 14 rfl;refine id (aC ha rfl rfl fun a ha=>?_);exact qdone rfl ha hS rfl
      ·refine Qz rfl fun a w hS ha hd=>?_;obtain⟨_,ha,rfl⟩:=hd.g ha 15 rfl;refine id (aC ha rfl rfl fun a ha=>?_);exact qdone rfl ha hS rfl
      subst hle34;obtain⟨_,ha,rfl⟩:=Dd ha hdr_ 16 rfl;obtain⟨_,ha,rfl⟩:=Dd ha hdr_ 17 rfl;refine aa (wp_seq (wp_seq (a7 (D:= []) (N:=99) (E:= [(4,(pB b1)),(10,(pB b16)),(11,(pB b20)),(12,(iV ((k: Nat): Int))),(13,(.bool ((cmpF B f t31 t32 lv).1))),(14,(iV ((cmpF B f t31 t32 lv).2))),(95,(.bool ((!(cmpF B f t31 t32 lv).1)||(decide (((cmpF B f t31 t32 lv).2) < 0)))))]) (fun a ha=>?_) ?_)));rotate_left
      ·refine Lm rfl ha fun a ha=>?_;refine lin rfl (aO ha rfl rfl fun a ha=>?_);refine Lm rfl ha fun a ha=>?_;refine ar (t:=92) ha rfl (fun h35 ha=>?_) (fun h35 ha=>?_)
       ·refine Lf rfl ha rfl rfl fun a ha=>?_;refine Lf rfl ha rfl rfl fun a ha=>?_;refine lin rfl (ao ha rfl rfl rfl fun a ha=>?_);have hj36:((!(cmpF B f t31 t32 lv).1)||(decide (((cmpF B f t31 t32 lv).2) < 0)))=true:=by
         try rw [h35]
         rfl
        exact wpList_nil ⟨rfl,rfl,Has.cons ha rfl (Has.cons ha rfl (Has.cons ha rfl (Has.cons ha rfl (Has.cons ha rfl (Has.cons ha rfl (Has.cons ha (by rw [hj36];rfl) (ha.nil)))))))⟩
       ·refine af rfl ha rfl rfl rfl (am ha rfl rfl fun a ha=>?_);refine af rfl ha rfl rfl rfl (aY (i:=((cmpF B f t31 t32 lv).2)) (j:=0) ha rfl rfl rfl fun a ha=>?_);refine lin rfl (aj ha rfl rfl rfl fun a ha=>?_);have hj37:((!(cmpF B f t31 t32 lv).1)||(decide (((cmpF B f t31 t32 lv).2) < 0)))=(decide (((cmpF B f t31 t32 lv).2) < 0)):=by
         try rw [h35]
         rfl
        exact wpList_nil ⟨rfl,rfl,Has.cons ha rfl (Has.cons ha rfl (Has.cons ha rfl (Has.cons ha rfl (Has.cons ha rfl (Has.cons ha rfl (Has.cons ha (by rw [hj37];rfl) (ha.nil)))))))⟩
      refine aa (ar (t:=95) ha rfl (fun h38 ha=>?_) (fun h38 ha=>?_))
      ·refine au ha rfl (wp_seq (ab (Lm rfl ha fun a ha=>?_)));refine Ls rfl ha fun a ha=>?_;refine Ls rfl ha fun a ha=>?_;refine wpList_nil (aa (wp_ret (ak (aA (ak (ak (aA (ak (ret2 rfl ha rfl rfl ?_)))))))));have hv_: cmpF B (f+1) ta tb left=(false,((cmpF B f t31 t32 lv).2)):=by rw [cmpF,if_neg h7,if_neg (by rw [show sameV ta tb=false from h13];simp),if_neg (by rw [h25];simp),if_neg (by rw [h28];simp),hW,cmpA_stop ht31 ht32 h38]
       exact⟨by rw [hv_],hS.plain.drop_all⟩
      ·refine an ha rfl (wp_skip (aa (ab (Lm rfl ha fun a ha=>?_))));refine Ls rfl ha fun a ha=>?_;refine wpList_nil (ay (aa (ab (Lm rfl ha fun a ha=>?_))));refine lin rfl (aN (i:=((k: Nat): Int)) (j:=1) ha rfl rfl rfl (by omega) fun a ha=>?_);refine Ls rfl ha fun a ha=>?_;refine wpList_nil (aa (?_));have hcm_:=cmp_ok hlv.1 h38;exact⟨(follow B ta).l.length - (k+1),by omega,(k+1),((cmpF B f t31 t32 lv).2),rfl,ha.pk rfl,hS,(by omega),(by omega),(hW.trans (cmpA_next ht31 ht32 h38))⟩
     ·refine an ha rfl (wp_exit (ap (ap (aF (aa (wp_seq (ab (Lm rfl ha fun a ha=>?_))))))));refine Ls rfl ha fun a ha=>?_;refine Ls rfl ha fun a ha=>?_;refine wpList_nil (aa (wp_ret (ret2 rfl ha rfl rfl ?_)));have hv_: cmpF B (f+1) ta tb left=(true,lv):=by rw [cmpF,if_neg h7,if_neg (by rw [show sameV ta tb=false from h13];simp),if_neg (by rw [h25];simp),if_neg (by rw [h28];simp),hW,cmpA_end (by omega)]
      exact⟨by rw [hv_],hS.plain.drop_all⟩
theorem c_Equal {w0: World} {H: PHeap} (hI: Inv w0 H []) {Ab: Option Addr} {cb: Nat} {B: List Tm} (hB: RowT H Ab cb B) {ta tb: Tm} {Aa A2: Option Addr} {ca c2: Nat} (hra: RowT H Aa ca ta.l) (hrb: RowT H A2 c2 tb.l) (hG: Gst B.length B) (hota: okT B.length ta=true) (hotb: okT B.length tb=true): Calls prog 72 #[(.agg #[(.slice Ab B.length cb)]),(tv ta Aa ca),(tv tb A2 c2)] w0 (Rs w0 H (.tuple #[.bool (cmpF B 20001 ta tb 20000).1,.bool (decide (0≤(cmpF B 20001 ta tb 20000).2))])):=by
 have hS:=Step.refl hI;have hlB:=hB.len;refine enter [(.agg #[(.slice Ab B.length cb)]),(tv ta Aa ca),(tv tb A2 c2)] func72 rfl ntmps72 rfl fun a ha=>?_;refine wp_seq (ab (lin rfl (aD (cs:= #[(.slice Ab B.length cb)]) hS ha rfl rfl rfl fun b1 a w hS ha=>?_)));refine lin rfl (aD (cs:=(tA ta Aa ca)) hS ha rfl rfl rfl fun b3 a w hS ha=>?_);refine lin rfl (aD (cs:=(tA tb A2 c2)) hS ha rfl rfl rfl fun b5 a w hS ha=>?_);refine Ls rfl ha fun a ha=>?_;refine Ls rfl ha fun a ha=>?_;refine wpList_nil (aa (wp_seq (ab (lin rfl (ai (vs:= [(.slice Ab B.length cb)]) T24 rfl ha rfl (hS.blkL 2 rfl) rfl (ag rfl) rfl fun a ha=>?_)))));refine lin rfl (ai (vs:=(tL ta Aa ca)) T26 rfl ha rfl (hS.blkL 1 rfl) rfl (ag rfl) rfl fun a ha=>?_);refine lin rfl (ai (vs:=(tL tb A2 c2)) T26 rfl ha rfl (hS.blkL 0 rfl) rfl (ag rfl) rfl fun a ha=>?_);have hk7:=c_compare hG 20001 ta tb _ _ _ _ 20000 _ _ hS.inv.nil _ _ hB hra hrb hota hotb (by decide);refine lin rfl (ah func108 rfl rfl (ha.evs rfl) ha rfl (hk7) ?_);rintro e w ⟨rfl,hc⟩;refine⟨_,rfl,fun a ha=>?_⟩;have hS:=hS.call hc;refine Lm rfl ha fun a ha=>?_;refine lin rfl (aq (v:=(.bool ((cmpF B 20001 ta tb 20000).1))) ha rfl rfl rfl fun a ha=>?_);refine lin rfl (aq (v:=(iV ((cmpF B 20001 ta tb 20000).2))) ha rfl rfl rfl fun a ha=>?_);refine Ls rfl ha fun a ha=>?_;refine Ls rfl ha fun a ha=>?_;refine wpList_nil (aa (wp_seq (ab (Lm rfl ha fun a ha=>?_))));refine Lm rfl ha fun a ha=>?_;refine lin rfl (cY (i:=((cmpF B 20001 ta tb 20000).2)) (j:=0) ha rfl rfl rfl fun a ha=>?_);refine Ls rfl ha fun a ha=>?_;refine Ls rfl ha fun a ha=>?_;refine wpList_nil (aa (wp_ret (ret2 rfl ha rfl rfl ?_)));exact⟨rfl,hS.plain.drop_all⟩
theorem c_RSame {w0: World} {H: PHeap} (hI: Inv w0 H []) {Ab: Option Addr} {cb: Nat} {B: List Tm} (hB: RowT H Ab cb B) {ta tb: Tm} {Aa A2: Option Addr} {ca c2: Nat} (hra: RowT H Aa ca ta.l) (hrb: RowT H A2 c2 tb.l) (hsb: ∀ t ∈ B,t.sz≤1000000000000∧strB t=true) (hza: ta.sz≤1000000000000∧strB ta=true) (hzb: tb.sz≤1000000000000∧strB tb=true): Calls prog 19 #[(.agg #[(.slice Ab B.length cb)]),(tv ta Aa ca),(tv tb A2 c2)] w0 (Rs w0 H (.tuple #[.bool (sameU B ta tb).1,.int .i64 (sameU B ta tb).2])):=by
 have hS:=Step.refl hI;have hlB:=hB.len;refine enter [(.agg #[(.slice Ab B.length cb)]),(tv ta Aa ca),(tv tb A2 c2)] func19 rfl ntmps19 rfl fun a ha=>?_;refine wp_seq (ab (lin rfl (aD (cs:= #[(.slice Ab B.length cb)]) hS ha rfl rfl rfl fun b1 a w hS ha=>?_)));refine lin rfl (aD (cs:=(tA ta Aa ca)) hS ha rfl rfl rfl fun b3 a w hS ha=>?_);refine lin rfl (aD (cs:=(tA tb A2 c2)) hS ha rfl rfl rfl fun b5 a w hS ha=>?_);refine Ls rfl ha fun a ha=>?_;refine Ls rfl ha fun a ha=>?_;refine wpList_nil (aa (wp_seq (wp_seq (ab (lin rfl (ai (vs:= [(.slice Ab B.length cb)]) T24 rfl ha rfl (hS.blkL 2 rfl) rfl (ag rfl) rfl fun a ha=>?_))))));have hk7:=c_Is hS.inv.nil hB hsb;refine lin rfl (ah func45 rfl rfl (ha.evs rfl) ha rfl (hk7) ?_);rintro e w ⟨rfl,hc⟩;refine⟨_,rfl,fun a ha=>?_⟩;have hS:=hS.call hc;refine lin rfl (aO ha rfl rfl fun a ha=>?_);refine wpList_nil (aa (ar (t:=12) ha rfl (fun h8 ha=>?_) (fun h8 ha=>?_)))
 ·have hg_: ∀ ts,gvE B ts=30:=fA h8;refine au ha rfl (wp_seq (ab (Ls rfl ha fun a ha=>?_)));refine Ls rfl ha fun a ha=>?_;refine wpList_nil (aa (wp_ret (ak (ret2 rfl ha rfl rfl ?_))));have hv_: sameU B ta tb=(false,30):=by unfold sameU;rw [if_neg (by rw [hg_];decide),hg_]
  exact⟨by rw [hv_],hS.plain.drop_all⟩
 ·have hvB: isB B=true:=by simpa using h8
  refine an ha rfl (wp_skip (aa (wp_seq (wp_seq (ab (lin rfl (ai (vs:=(tL ta Aa ca)) T26 rfl ha rfl (hS.blkL 1 rfl) rfl (ag rfl) rfl fun a ha=>?_)))))));refine lin rfl (ac (f:=0) (o2:=0) T24 T22 rfl rfl rfl rfl ha rfl rfl fun a ha=>?_);refine lin rfl (ae (v:=(.slice Ab B.length cb)) T22 rfl ha rfl (hS.blkL 2 rfl) rfl rfl fun a ha=>?_);refine lin rfl (aH T22.und ha rfl rfl fun a ha=>?_);have hk9:=cF (n:=((B.length: Nat): Int)) hS.inv.nil hra hza.1 hza.2;refine lin rfl (ah func46 rfl rfl (ha.evs rfl) ha rfl (hk9) ?_);rintro e w ⟨rfl,hc⟩;refine⟨_,rfl,fun a ha=>?_⟩;have hS:=hS.call hc;refine lin rfl (aO ha rfl rfl fun a ha=>?_);refine Lm rfl ha fun a ha=>?_;refine ar (t:=19) ha rfl (fun h10 ha=>?_) (fun h10 ha=>?_)
  ·have hota: okT B.length ta=false:=by simpa only [okT,Bool.not_eq_true',Bool.not_eq_false'] using h10
   refine Lf rfl ha rfl rfl fun a ha=>?_;refine Lf rfl ha rfl rfl fun a ha=>?_;refine Lf rfl ha rfl rfl fun a ha=>?_;refine Lf rfl ha rfl rfl fun a ha=>?_;refine Lf rfl ha rfl rfl fun a ha=>?_;refine Lf rfl ha rfl rfl fun a ha=>?_;refine lin rfl (ao ha rfl rfl rfl fun a ha=>?_);refine wpList_nil (aa (au ha rfl (wp_seq (ab (Ls rfl ha fun a ha=>?_)))));refine Ls rfl ha fun a ha=>?_;refine wpList_nil (aa (wp_ret (ak (ret2 rfl ha rfl rfl ?_))));have hv_: sameU B ta tb=(false,3):=by unfold sameU;rw [if_neg (by rw [eO hvB (t:=ta) (by simp) hota];decide),eO hvB (t:=ta) (by simp) hota]
   exact⟨by rw [hv_],hS.plain.drop_all⟩
  ·have hota: okT B.length ta=true:=by simpa only [okT,Bool.not_eq_true',Bool.not_eq_false'] using h10
   refine af rfl ha rfl rfl rfl (ai (vs:=(tL tb A2 c2)) T26 rfl ha rfl (hS.blkL 0 rfl) rfl (ag rfl) rfl fun a ha=>?_);refine af rfl ha rfl rfl rfl (ac (f:=0) (o2:=0) T24 T22 rfl rfl rfl rfl ha rfl rfl fun a ha=>?_);refine af rfl ha rfl rfl rfl (ae (v:=(.slice Ab B.length cb)) T22 rfl ha rfl (hS.blkL 2 rfl) rfl rfl fun a ha=>?_);refine af rfl ha rfl rfl rfl (aH T22.und ha rfl rfl fun a ha=>?_);have hk11:=cF (n:=((B.length: Nat): Int)) hS.inv.nil hrb hzb.1 hzb.2;refine af rfl ha rfl rfl rfl (ah func46 rfl rfl (ha.evs rfl) ha rfl (hk11) ?_);rintro e w ⟨rfl,hc⟩;refine⟨_,rfl,fun a ha=>?_⟩;have hS:=hS.call hc;refine af rfl ha rfl rfl rfl (aO ha rfl rfl fun a ha=>?_);refine lin rfl (aj ha rfl rfl rfl fun a ha=>?_);refine wpList_nil (aa (ar (t:=26) ha rfl (fun h12 ha=>?_) (fun h12 ha=>?_)))
   ·have hotb: okT B.length tb=false:=by simpa only [okT,Bool.not_eq_true',Bool.not_eq_false'] using h12
    refine au ha rfl (wp_seq (ab (Ls rfl ha fun a ha=>?_)));refine Ls rfl ha fun a ha=>?_;refine wpList_nil (aa (wp_ret (ak (ret2 rfl ha rfl rfl ?_))));have hv_: sameU B ta tb=(false,3):=by unfold sameU;rw [if_neg (by rw [eO hvB (t:=tb) (by simp) hotb];decide),eO hvB (t:=tb) (by simp) hotb]
    exact⟨by rw [hv_],hS.plain.drop_all⟩
   ·have hotb: okT B.length tb=true:=by simpa only [okT,Bool.not_eq_true',Bool.not_eq_false'] using h12
    refine an ha rfl (wp_skip (aa (wp_seq (ab (lin rfl (ai (vs:= [(.slice Ab B.length cb)]) T24 rfl ha rfl (hS.blkL 2 rfl) rfl (ag rfl) rfl fun a ha=>?_))))));refine lin rfl (ai (vs:=(tL ta Aa ca)) T26 rfl ha rfl (hS.blkL 1 rfl) rfl (ag rfl) rfl fun a ha=>?_);refine lin rfl (ai (vs:=(tL tb A2 c2)) T26 rfl ha rfl (hS.blkL 0 rfl) rfl (ag rfl) rfl fun a ha=>?_);have hk13:=c_Equal hS.inv.nil hB hra hrb (cn.1 hvB).1 hota hotb;refine lin rfl (ah func72 rfl rfl (ha.evs rfl) ha rfl (hk13) ?_);rintro e w ⟨rfl,hc⟩;refine⟨_,rfl,fun a ha=>?_⟩;have hS:=hS.call hc;refine Lm rfl ha fun a ha=>?_;refine lin rfl (aq (v:=(.bool ((cmpF B 20001 ta tb 20000).1))) ha rfl rfl rfl fun a ha=>?_);refine lin rfl (aq (v:=(.bool (decide (0≤(cmpF B 20001 ta tb 20000).2)))) ha rfl rfl rfl fun a ha=>?_);refine Ls rfl ha fun a ha=>?_;refine Ls rfl ha fun a ha=>?_;refine wpList_nil (aa (wp_seq (wp_seq (ab (Lm rfl ha fun a ha=>?_)))));refine lin rfl (aO ha rfl rfl fun a ha=>?_);refine wpList_nil (aa (ar (t:=35) ha rfl (fun h14 ha=>?_) (fun h14 ha=>?_)))
    ·refine au ha rfl (wp_seq (ab (Ls rfl ha fun a ha=>?_)));refine Ls rfl ha fun a ha=>?_;refine wpList_nil (aa (wp_ret (ak (ret2 rfl ha rfl rfl ?_))));have hv_: sameU B ta tb=(false,2):=by unfold sameU;rw [if_pos (gve2 hvB hota hotb),cmp_eqW,if_pos (by simpa using h14)]
     exact⟨by rw [hv_],hS.plain.drop_all⟩
    ·refine an ha rfl (wp_skip (aa (wp_seq (ab (Lm rfl ha fun a ha=>?_)))));refine Ls rfl ha fun a ha=>?_;refine Ls rfl ha fun a ha=>?_;refine wpList_nil (aa (wp_ret (ret2 rfl ha rfl rfl ?_)));have hv_: sameU B ta tb=((cmpF B 20001 ta tb 20000).1,0):=by unfold sameU;rw [if_pos (gve2 hvB hota hotb),cmp_eqW,if_neg (by simpa using h14)]
     exact⟨by rw [hv_],hS.plain.drop_all⟩
theorem c_RTFree {w0: World} {H: PHeap} (hI: Inv w0 H []) {Ab: Option Addr} {cb: Nat} {B: List Tm} (hB: RowT H Ab cb B) {t: Tm} {A: Option Addr} {c: Nat} (hr: RowT H A c t.l) (hsb: ∀ t ∈ B,t.sz≤1000000000000∧strB t=true) (htb: t.sz≤1000000000000∧strB t=true): Calls prog 17 #[(.agg #[(.slice Ab B.length cb)]),(tv t A c)] w0 (fun e w'=> ∃ A c en,e=.returned (.tuple #[.slice A (freeU B t).1.length c,.int .i64 (freeU B t).2])∧Row (.slice A (freeU B t).1.length c) en 3 1 (freeU B t).1.length (ints (freeU B t).1)∧Step w0 H [] w' H [en]):=by
 have hS:=Step.refl hI;have hlB:=hB.len;refine enter [(.agg #[(.slice Ab B.length cb)]),(tv t A c)] func17 rfl ntmps17 rfl fun a ha=>?_;refine wp_seq (ab (lin rfl (aD (cs:= #[(.slice Ab B.length cb)]) hS ha rfl rfl rfl fun b1 a w hS ha=>?_)));refine lin rfl (aD (cs:=(tA t A c)) hS ha rfl rfl rfl fun b3 a w hS ha=>?_);refine Ls rfl ha fun a ha=>?_;refine Ls rfl ha fun a ha=>?_;refine wpList_nil (aa (wp_seq (wp_seq (ab (lin rfl (ai (vs:= [(.slice Ab B.length cb)]) T24 rfl ha rfl (hS.blkL 1 rfl) rfl (ag rfl) rfl fun a ha=>?_))))));have hk5:=c_Is hS.inv.nil hB hsb;refine lin rfl (ah func45 rfl rfl (ha.evs rfl) ha rfl (hk5) ?_);rintro e w ⟨rfl,hc⟩;refine⟨_,rfl,fun a ha=>?_⟩;have hS:=hS.call hc;refine lin rfl (aO ha rfl rfl fun a ha=>?_);refine wpList_nil (aa (ar (t:=8) ha rfl (fun h6 ha=>?_) (fun h6 ha=>?_)))
 ·have hg_: ∀ ts,gvE B ts=30:=fA h6;refine au ha rfl (wp_seq (ab (Ls rfl ha fun a ha=>?_)));refine Ls rfl ha fun a ha=>?_;refine wpList_nil (aa (wp_ret (ak (ret2 rfl ha rfl rfl ?_))));have hS:=hS.cons_none (en:=noEnt) rfl;have hS:=hS.front 1 rfl;have hS:=hS.drop;have hS:=hS.front 1 rfl;have hS:=hS.drop;have hv_: freeU B t=([],30):=by unfold freeU;rw [if_neg (by rw [hg_];decide),hg_]
  rw [hv_];exact⟨_,_,_,rfl,(Row.nil 3 1),hS.plain⟩
 ·have hvB: isB B=true:=by simpa using h6
  refine an ha rfl (wp_skip (aa (wp_seq (wp_seq (ab (lin rfl (ai (vs:=(tL t A c)) T26 rfl ha rfl (hS.blkL 0 rfl) rfl (ag rfl) rfl fun a ha=>?_)))))));refine lin rfl (ac (f:=0) (o2:=0) T24 T22 rfl rfl rfl rfl ha rfl rfl fun a ha=>?_);refine lin rfl (ae (v:=(.slice Ab B.length cb)) T22 rfl ha rfl (hS.blkL 1 rfl) rfl rfl fun a ha=>?_);refine lin rfl (aH T22.und ha rfl rfl fun a ha=>?_);have hk8:=cF (n:=((B.length: Nat): Int)) hS.inv.nil hr htb.1 htb.2;refine lin rfl (ah func46 rfl rfl (ha.evs rfl) ha rfl (hk8) ?_);rintro e w ⟨rfl,hc⟩;refine⟨_,rfl,fun a ha=>?_⟩;have hS:=hS.call hc;refine lin rfl (aO ha rfl rfl fun a ha=>?_);refine wpList_nil (aa (ar (t:=14) ha rfl (fun h9 ha=>?_) (fun h9 ha=>?_)))
  ·have hot: okT B.length t=false:=by simpa only [okT,Bool.not_eq_true',Bool.not_eq_false'] using h9
   refine au ha rfl (wp_seq (ab (Ls rfl ha fun a ha=>?_)));refine Ls rfl ha fun a ha=>?_;refine wpList_nil (aa (wp_ret (ak (ret2 rfl ha rfl rfl ?_))));have hS:=hS.cons_none (en:=noEnt) rfl;have hS:=hS.front 1 rfl;have hS:=hS.drop;have hS:=hS.front 1 rfl;have hS:=hS.drop;have hv_: freeU B t=([],3):=by unfold freeU;rw [if_neg (by rw [eO hvB (List.mem_singleton.2 rfl) hot];decide),eO hvB (List.mem_singleton.2 rfl) hot]
   rw [hv_];exact⟨_,_,_,rfl,(Row.nil 3 1),hS.plain⟩
  ·have hot: okT B.length t=true:=by simpa only [okT,Bool.not_eq_true',Bool.not_eq_false'] using h9
   refine an ha rfl (wp_skip (aa (wp_seq (ab (lin rfl (ai (vs:= [(.slice Ab B.length cb)]) T24 rfl ha rfl (hS.blkL 1 rfl) rfl (ag rfl) rfl fun a ha=>?_))))));refine lin rfl (ai (vs:=(tL t A c)) T26 rfl ha rfl (hS.blkL 0 rfl) rfl (ag rfl) rfl fun a ha=>?_);have hk12:=c_FreeOf hS.inv.nil (RdT.of_row hS.inv.nil hB) hr (cn.1 hvB).1 hot;refine lin rfl (ah func70 rfl rfl (ha.evs rfl) ha rfl (hk12) ?_);rintro e w ⟨A11,c11,en11,rfl,hR11,hc⟩;refine⟨_,rfl,fun a ha=>?_⟩;have hS:=hS.call_own hc;refine Ls rfl ha fun a ha=>?_;refine Ls rfl ha fun a ha=>?_;refine wpList_nil (aa (wp_ret (ret2 rfl ha rfl rfl ?_)));have hS:=hS.front 1 rfl;have hS:=hS.drop;have hS:=hS.front 1 rfl;have hS:=hS.drop;have hv_: freeU B t=((VF B (fun _=>false) [t] [] []).2,0):=by unfold freeU;rw [if_pos (gve1 hvB hot)]
   rw [hv_];exact⟨_,_,_,rfl,hR11,hS.plain⟩
end Go.Vk.Tryz
namespace Go.Vk.Tryz
open Go.RowKit
abbrev q0: Tm:=(Tm.mk 1 0 ⟨#[]⟩ [])
abbrev q1: Tm:=(Tm.mk 1 1 ⟨#[]⟩ [])
abbrev k2: List Tm:= [tZ,q0,tZ]
abbrev q3: Tm:=(Tm.mk 5 0 (⟨#[102]⟩) [q0,q1])
abbrev q4: Tm:=(Tm.mk 3 0 (⟨#[97]⟩) [])
abbrev q5: Tm:=(Tm.mk 5 0 (⟨#[102]⟩) [q1,q4])
abbrev k6: List Tm:= [q4,q0,tZ]
abbrev q7: Tm:=(Tm.mk 1 2 ⟨#[]⟩ [])
abbrev q8: Tm:=(Tm.mk 5 0 (⟨#[102]⟩) [q7,q1])
abbrev q9: Tm:=(Tm.mk 5 0 (⟨#[102]⟩) [q1,q0])
abbrev k10: List Tm:= [tZ,q0,q1]
abbrev q11: Tm:=(Tm.mk 5 0 (⟨#[102]⟩) [q0])
abbrev q12: Tm:=(Tm.mk 5 0 (⟨#[103]⟩) [q1])
abbrev q13: Tm:=(Tm.mk 5 0 (⟨#[103]⟩) [q0])
abbrev q14: Tm:=(Tm.mk 5 0 (⟨#[102]⟩) [q12,q13])
abbrev q15: Tm:=(Tm.mk 5 0 (⟨#[102]⟩) [q0,q0])
abbrev q16: Tm:=(Tm.mk 5 0 (⟨#[102]⟩) [q1,q1])
abbrev k17: List Tm:= [tZ,q15,q16]
abbrev q18: Tm:=(valU k17 q7).1
abbrev q19: Tm:=(wholeU k17 q7).1
abbrev q20: Tm:=(Tm.mk 5 0 (⟨#[102]⟩) [q1,q15])
abbrev q21: Tm:=(Tm.mk 5 0 (⟨#[102]⟩) [q15,q15])
abbrev q22: Tm:=(Tm.mk 5 0 (⟨#[102]⟩) [q7,q0])
abbrev k23: List Tm:= [q1,tZ]
abbrev k24: List Tm:= [q11]
abbrev q25: Tm:=(Tm.mk 5 0 (⟨#[102]⟩) [q1])
abbrev k26: List Tm:= [q25,q4]
abbrev k27: List Tm:= [q25,tZ]
abbrev k28: List Tm:= [tZ,q4,q0]
abbrev k29: List Tm:=(mergeU k27 k28).1.1
abbrev k30: List Tm:= [q4,q4]
abbrev k31: List Tm:= [tZ,q0]
abbrev k32: List Tm:= [tZ]
abbrev k33: List Tm:= [q25,q4,q25]
abbrev k34: List Tm:=(sVar k32 ([])).1.1
abbrev k35: List Chg:=(sVar k32 ([])).1.2
abbrev k36: List Tm:=(sUni k34 k35 q0 q1).1.1
abbrev k37: List Chg:=(sUni k34 k35 q0 q1).1.2
abbrev k38: List Tm:=(sBack k36 k37 1).1.1
abbrev k40: List Tm:= [tZ,tZ]
end Go.Vk.Tryz
