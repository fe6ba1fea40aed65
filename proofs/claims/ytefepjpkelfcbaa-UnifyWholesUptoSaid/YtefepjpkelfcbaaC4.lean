/- Part 4 of the proof of unifyWholes_holds. Conditions: none. -/
import Derived.Test.YtefepjpkelfcbaaC3
set_option linter.unusedVariables false
set_option linter.unusedSimpArgs false
set_option linter.unusedSectionVars false
set_option maxRecDepth 100000
open Go.Proofs.Try
namespace Go.Vk
theorem KI.step {n: Nat} {B: List Tm} (hG: Gst n B) {d: Nat} {us: List (List Int)} {lf nx: List Int} {v: Int} (h: KI B d us lf nx) (hv: nx[d]? =some v) :
  KI B (d+1) us (khN (us.getD v.toNat []) lf nx).1 (khN (us.getD v.toNat []) lf nx).2:=by
 have hd: d < nx.length:=(List.getElem?_eq_some_iff.1 hv).1;have hv0:=h.rg v (List.mem_of_getElem? hv);have ev:((v.toNat: Nat): Int)=v:=by omega
 have hrng: ∀ x ∈ us.getD v.toNat [],0≤x∧x.toNat < lf.length:=fun x hx=>by
  obtain⟨m,h1,h2,_⟩:=(h.mem v.toNat x).1 hx;rw [h.ll];omega
 obtain⟨hg,hx2⟩:=khN_get (us.getD v.toNat []) lf nx (h.nd _) hrng;have hmem: ∀ m: Nat,m < B.length→((m: Int) ∈ us.getD v.toNat []↔v ∈ dps B m):=fun m hm=>by
  rw [h.mem,ev]
  constructor
  ·rintro⟨m',h1,h2,h3⟩;obtain rfl: m=m':=by omega
   exact h3
  ·intro h1;exact⟨m,hm,rfl,h1⟩
 have htk: ∀ k,k≤nx.length→(khN (us.getD v.toNat []) lf nx).2.take k=nx.take k:=fun k hk=>by rw [hx2,List.take_append_of_le_length hk]
 have hlt: ∀ m: Nat,m < B.length→(khN (us.getD v.toNat []) lf nx).1.getD m 0=(((dps B m).filter (fun j=>!((khN (us.getD v.toNat []) lf nx).2.take (d+1)).contains j)).length: Int):=fun m hm=>by
  rw [hg,htk (d+1) (by omega),h.lt m hm]
  by_cases hvm: v ∈ dps B m
  ·rw [if_pos ((hmem m hm).2 hvm)];have:=dG (p:=fun j=>!(nx.take d).contains j) (q:=fun j=>!(nx.take (d+1)).contains j) (dps_nodup B m) hvm (by simpa using nodup_take_not h.nn hv) (by rw [ee hv];simp) (fun x _ hx=>by rw [ee hv,decide_eq_false hx];simp);omega
  ·rw [if_neg (fun hh=>hvm ((hmem m hm).1 hh)),Int.sub_zero]
   congr 2
   refine List.filter_congr fun x hx=>?_;rw [ee hv,decide_eq_false (show ¬ x=v from fun e=>hvm (e ▸ hx))];simp
 have hone: ∀ x ∈ us.getD v.toNat [],mrk lf x=1→x ∉ nx:=fun x hx h1 hn=>by
  have hr:=hrng x hx;rw [h.ll] at hr;have h2:=(h.zr x.toNat hr.2).1 (by rw [show ((x.toNat: Nat): Int)=x by omega];exact hn);unfold mrk at h1;omega
 refine⟨h.ul,by rw [khN_len];exact h.ll,h.mem,h.nd,h.sz,hlt,?_,fun i hi=>?_,fun m hm=>?_,fun p i hp j hj=>?_,?_⟩
 ·rw [hx2,List.nodup_append];refine⟨h.nn,(h.nd _).filter _,fun a ha b hb e=>?_⟩;subst e;rw [List.mem_filter,decide_eq_true_eq] at hb;exact hone a hb.1 hb.2 ha
 ·rw [hx2] at hi
  rcases List.mem_append.1 hi with hi | hi
  ·exact h.rg i hi
  ·have:=hrng i (List.mem_filter.1 hi).1;rw [h.ll] at this;omega
 ·rw [hg,hx2,List.mem_append,h.zr m hm,List.mem_filter,decide_eq_true_eq]
  by_cases hc:(m: Int) ∈ us.getD v.toNat []
  ·rw [if_pos hc];have h1: lf.getD m 0≠0:=fun h0=>by
    have h2:=h.lt m hm;rw [h0] at h2;have h3:(dps B m).filter (fun j=>!(nx.take d).contains j)= []:=List.eq_nil_of_length_eq_zero (by omega);have h4: v ∈(dps B m).filter (fun j=>!(nx.take d).contains j):=List.mem_filter.2 ⟨(hmem m hm).1 hc,by simpa using nodup_take_not h.nn hv⟩;rw [h3] at h4;cases h4
   have h2: mrk lf (m: Int)=lf.getD m 0:=rfl;rw [h2]
   constructor
   ·rintro(h3 | h3)
    ·exact absurd h3 h1
    ·omega
   ·intro h3;exact .inr ⟨hc,by omega⟩
  ·rw [if_neg hc]
   constructor
   ·rintro(h3 | h3)
    ·omega
    ·exact absurd h3.1 hc
   ·intro h3;exact .inl (by omega)
 ·by_cases hpl: p < nx.length
  ·rw [hx2,List.getElem?_append_left hpl] at hp;rw [htk p (by omega)];exact h.od p i hp j hj
  ·have hi: i ∈ us.getD v.toNat []∧mrk lf i=1:=by
    rw [hx2,List.getElem?_append_right (by omega)] at hp;have:=List.mem_filter.1 (List.mem_of_getElem? hp);exact⟨this.1,by simpa using this.2⟩
   have hr:=hrng i hi.1;rw [h.ll] at hr;have h1:=hlt i.toNat hr.2;rw [hg,if_pos (by rw [show ((i.toNat: Nat): Int)=i by omega];exact hi.1)] at h1;have h2:=hi.2;unfold mrk at h2;rw [h2] at h1;have h3:(dps B i.toNat).filter (fun j=>!((khN (us.getD v.toNat []) lf nx).2.take (d+1)).contains j)= []:=List.eq_nil_of_length_eq_zero (by omega);rw [List.filter_eq_nil_iff] at h3;have h4:=h3 j hj;have h5: j ∈(khN (us.getD v.toNat []) lf nx).2.take (d+1):=by simpa using h4
   rw [htk _ (by omega)] at h5;rw [hx2,List.take_append,List.mem_append]
   left
   rw [List.take_of_length_le (by omega)];exact List.mem_of_mem_take h5
 ·rw [hx2,List.length_append];omega
theorem eO: ∀(n: Nat) (l: List Int),l.Nodup→(∀ x ∈ l,0≤x∧x < n)→l.length≤n
 | 0,l,_,h=>by
  cases l with
  | nil=>simp
  | cons x xs=>have:=h x List.mem_cons_self;omega
 | n+1,l,hn,h=>by
  have h1:=eO n (l.filter (fun x=>!decide (x=(n: Int)))) (hn.filter _) (fun x hx=>by
   rw [List.mem_filter] at hx;have:=h x hx.1;have h2: x≠(n: Int):=by simpa using hx.2
   omega)
  by_cases hm:(n: Int) ∈ l
  ·have:=dG (p:=fun _=>true) (q:=fun x=>!decide (x=(n: Int))) hn hm rfl (by simp) (fun x _ hx=>by simp [hx]);rw [List.filter_eq_self.2 (fun _ _=>rfl)] at this;omega
  ·rw [List.filter_eq_self.2 (fun x hx=>by have: x≠(n: Int):=(fun e=>hm (e ▸ hx));simpa using this)] at h1;omega
theorem KI.len {B: List Tm} {d: Nat} {us: List (List Int)} {lf nx: List Int} (h: KI B d us lf nx): nx.length≤B.length:=eO _ _ h.nn h.rg
theorem KI.yes {n: Nat} {B: List Tm} (hG: Gst n B) {d: Nat} {us: List (List Int)} {lf nx: List Int} (h: KI B d us lf nx) (hd: d=B.length): Acyc B:=by
 have hl: nx.length=B.length:=by have:=h.le;have:=h.len;omega
 have hall: ∀ m: Nat,m < B.length→(m: Int) ∈ nx:=fun m hm=>Classical.byContradiction fun hno=>by
  have:=eO B.length ((m: Int)::nx) (List.nodup_cons.2 ⟨hno,h.nn⟩) (fun x hx=>by
   rcases List.mem_cons.1 hx with rfl | hx
   ·omega
   ·exact h.rg x hx)
  rw [List.length_cons] at this;omega
 refine⟨fun m=>nx.idxOf (m: Int),fun i t hi hk j hj=>?_⟩;have hib: i < B.length:=(List.getElem?_eq_some_iff.1 hi).1;have h1: nx.idxOf (i: Int) < nx.length:=List.idxOf_lt_length_of_mem (hall i hib);have h2: nx[nx.idxOf (i: Int)]? =some (i: Int):=by
  rw [List.getElem?_eq_getElem h1,List.getElem_idxOf h1]
 have h3:=h.od _ _ h2 j (by rw [show ((i: Nat): Int).toNat=i by omega];exact(eF hG hi hk j).2 hj);have h4:=hG.occV i t hi j hj
 show nx.idxOf ((j.toNat: Nat): Int) < _
 rw [show ((j.toNat: Nat): Int)=j by omega];obtain⟨q,hq⟩:=List.getElem?_of_mem h3;rw [List.getElem?_take] at hq
 split at hq
 ·rename_i hlt
  have:=List.getElem?_eq_some_iff.1 hq;have hj: j ∈ nx:=List.mem_of_mem_take h3;have h6: nx.idxOf j < nx.length:=List.idxOf_lt_length_of_mem hj;have h5:=(List.getElem_inj (xs:=nx) h.nn (i:=nx.idxOf j) (j:=q) (h₀:=h6) (h₁:=this.1)).1 (by rw [List.getElem_idxOf h6,this.2]);rw [h5];exact hlt
 ·cases hq
theorem KI.no {n: Nat} {B: List Tm} (hG: Gst n B) {d: Nat} {us: List (List Int)} {lf nx: List Int} (h: KI B d us lf nx) (hd: d=nx.length) (hne: d≠B.length): ¬ Acyc B:=by
 rintro⟨rk,hr⟩;have hl:=h.len;have key: ∀ k m: Nat,m < B.length→rk m≤k→(m: Int) ∈ nx:=by
  intro k
  induction k with
  | zero =>
   intro m hm hk;refine(h.zr m hm).2 ?_;rw [h.lt m hm,List.filter_eq_nil_iff.2 ?_];rfl;intro j hj;have hkd:(B.getD m default).kind≠0:=fun hk=>by unfold dps at hj;rw [if_pos hk] at hj;cases hj
   have:=hr m _ (bj hkd) hkd j ((eF hG (bj hkd) hkd j).1 hj);omega
  | succ k ih =>
   intro m hm hk;refine(h.zr m hm).2 ?_;rw [h.lt m hm,List.filter_eq_nil_iff.2 ?_];rfl;intro j hj;have hkd:(B.getD m default).kind≠0:=fun hk=>by unfold dps at hj;rw [if_pos hk] at hj;cases hj
   have h1:=hr m _ (bj hkd) hkd j ((eF hG (bj hkd) hkd j).1 hj);have h2:=fh hG hj;have h3:=ih j.toNat (by omega) (by omega);rw [show ((j.toNat: Nat): Int)=j by omega] at h3;rw [hd,List.take_length];simpa using h3
 have hsub: ∀ m: Nat,m < B.length→(m: Int) ∈ nx:=fun m hm=>key _ m hm (Nat.le_refl _);have hle: B.length≤nx.length:=by
  have hs: ∀(k: Nat),k≤B.length→k≤(nx.filter (fun x=>decide (x <(k: Int)))).length:=by
   intro k
   induction k with
   | zero=>intro _;omega
   | succ k ih =>
    intro hk;have:=ih (by omega);have:=dG (l:=nx) (p:=fun x=>decide (x <((k+1: Nat): Int))) (q:=fun x=>decide (x <(k: Int))) (v:=(k: Int)) h.nn (hsub k (by omega)) (by simp;omega) (by simp) (fun x _ hx=>by rw [Bool.eq_iff_iff];simp;omega);omega
  have:=hs B.length (Nat.le_refl _);have:=List.length_filter_le (fun x=>decide (x <(B.length: Int))) nx;omega
 omega
open Classical in
noncomputable def acycB (B: List Tm): Bool:=decide (Acyc B)
theorem eB {B: List Tm}: acycB B=true↔Acyc B:=by unfold acycB;exact @decide_eq_true_iff (Acyc B) (Classical.propDecidable _)
theorem KI.acycB {n: Nat} {B: List Tm} (hG: Gst n B) {d: Nat} {us: List (List Int)} {lf nx: List Int} (h: KI B d us lf nx) (hd: nx.length≤d): Vk.acycB B=decide (((d: Nat): Int)=((B.length: Nat): Int)):=by
 have hd': d=nx.length:=by have:=h.le;omega
 by_cases e: d=B.length
 ·rw [eB.2 (h.yes hG e),decide_eq_true (by omega)]
 ·have:=h.no hG hd' e;have h2: Vk.acycB B=false:=by
   cases hh: Vk.acycB B with
   | false=>rfl
   | true=>exact absurd (eB.1 hh) this
  rw [h2,decide_eq_false (by omega)]
end Go.Vk
namespace Go.Vk
open Go.RowKit
structure SV where
 A: Option Addr
 c: Nat
 xs: List Int
def SV.cells (s: SV): List Value:= [.slice s.A s.xs.length s.c]
def SV.zero: SV:=⟨none,0, []⟩
theorem SV.len (s: SV): s.cells.length=1:=rfl
theorem fL (sv: List SV): gfl SV.cells sv=sv.map fun s=>.slice s.A s.xs.length s.c:=by
 induction sv with
 | nil=>rfl
 | cons s ss ih=>rw [cV,ih];rfl
theorem zcells_sv (k: Nat): zcells (.slice none 0 0) k=gfl SV.cells (List.replicate k SV.zero):=by
 have hl:(zcells (.slice none 0 0) k).length=k * 1:=aW _ _;rw [fL]
 apply List.ext_getElem?
 intro j
 by_cases hj: j < k
 ·simp only [zcells,Builtin.zeroCells,Array.toList_map,List.getElem?_map,Array.toList_range];have hr:(List.range (k *(Value.slice none 0 0).cells.size))[j]? =some j:=List.getElem?_range (show j < k * 1 by omega);rw [hr,List.getElem?_replicate,if_pos hj];simp only [Option.map_some,Option.some.injEq];have h1:(Value.slice none 0 0).cells.size=1:=rfl;rw [h1,Nat.mod_one];rfl
 ·rw [List.getElem?_eq_none (by omega),List.getElem?_eq_none (by simp;omega)]
theorem splice_sv {sv: List SV} {j: Nat} (hj: j < sv.length) (s: SV): splice (gfl SV.cells sv) (j * 1) s.cells=gfl SV.cells (sv.set j s):=by
 unfold splice;rw [fL,fL,Nat.mul_one,List.map_set,List.set_eq_take_append_cons_drop,if_pos (by simpa using hj),List.append_assoc];rfl
def Fam (ti: Nat) (sv: List SV) (fam: List Ent): Prop:=
 fam.length=sv.length∧∀(j: Nat) (s: SV) (e: Ent),sv[j]? =some s→fam[j]? =some e→Row (.slice s.A s.xs.length s.c) e ti 1 s.xs.length (ints s.xs)
theorem Fam.zero (ti n: Nat): Fam ti (List.replicate n SV.zero) (List.replicate n noEnt):=by
 refine⟨by simp,fun j s e hs he=>?_⟩;rw [List.getElem?_replicate] at hs he
 split at hs
 ·rename_i h
  rw [if_pos h] at he;obtain rfl:=Option.some.inj hs;obtain rfl:=Option.some.inj he;exact Row.nil ti 1
 ·cases hs
theorem Fam.get {ti: Nat} {sv: List SV} {fam: List Ent} (h: Fam ti sv fam) {j: Nat} (hj: j < sv.length): ∃ s e,sv[j]? =some s∧fam[j]? =some e∧Row (.slice s.A s.xs.length s.c) e ti 1 s.xs.length (ints s.xs):=
 ⟨sv[j],fam[j]'(by rw [h.1];exact hj),List.getElem?_eq_getElem hj,List.getElem?_eq_getElem _,h.2 _ _ _ (List.getElem?_eq_getElem hj) (List.getElem?_eq_getElem _)⟩
theorem Fam.set {ti: Nat} {sv: List SV} {fam: List Ent} (h: Fam ti sv fam) {j: Nat} {s: SV} {e: Ent} (hr: Row (.slice s.A s.xs.length s.c) e ti 1 s.xs.length (ints s.xs)): Fam ti (sv.set j s) (fam.set j e):=by
 refine⟨by simp [h.1],fun i s' e' hs he=>?_⟩;rw [List.getElem?_set] at hs he
 by_cases hij: j=i
 ·rw [if_pos hij] at hs he
  split at hs
  ·rename_i hl
   rw [if_pos (by rw [h.1];exact hl)] at he;obtain rfl:=Option.some.inj hs;obtain rfl:=Option.some.inj he;exact hr
  ·cases hs
 ·rw [if_neg hij] at hs he;exact h.2 i s' e' hs he
section
variable {w0 w: World} {H0 H: PHeap} {L0 Es fam: List Ent}
theorem Step.fam0 (h: Step w0 H0 L0 w H Es): ∀ n: Nat,Step w0 H0 L0 w H (Es++List.replicate n noEnt)
 | 0=>by rw [List.replicate_zero,List.append_nil];exact h
 | n+1=>by
  have:=(Step.fam0 h n).cons_none (en:=noEnt) rfl;rw [List.replicate_succ];exact this.perm List.perm_middle.symm
theorem Step.expose (h: Step w0 H0 L0 w H (Es++fam)) {j: Nat} {e: Ent} (he: fam[j]? =some e): Step w0 H0 L0 w H (Es++e::fam.eraseIdx j):=h.perm (List.Perm.append_left _ (di _ _ _ he))
theorem Step.hide {e e': Ent} {j: Nat} (hj: fam[j]? =some e) (h: Step w0 H0 L0 w H (Es++e'::fam.eraseIdx j)): Step w0 H0 L0 w H (Es++fam.set j e'):=by
 refine h.perm (List.Perm.append_left _ ?_);have hl:=(List.getElem?_eq_some_iff.1 hj).1;have:=di (fam.set j e') j e' (by rw [List.getElem?_set,if_pos rfl,if_pos hl]);rw [List.eraseIdx_set_eq] at this;exact this.symm
end
theorem mrk_at {st: List Int} {v x: Int} (h: st[v.toNat]? =some x): mrk st v=x:=by unfold mrk;rw [List.getD_eq_getElem?_getD,h];rfl
theorem ch {sv: List SV} {j: Nat} {s: SV} (h: sv[j]? =some s):(sv.map SV.xs).getD j []=s.xs:=by rw [List.getD_eq_getElem?_getD,List.getElem?_map,h];rfl
theorem usA_cons {us: List (List Int)} {i x: Int} {l: List Int} {k: Nat} (h: l[k]? =some x): usA us i (l.drop k)=usA (us.set x.toNat (us.getD x.toNat []++ [i])) i (l.drop (k+1)):=by rw [aI h,usA]
theorem khN_cons {lf nx l: List Int} {x: Int} {k: Nat} (h: l[k]? =some x): khN (l.drop k) lf nx=khN (l.drop (k+1)) (lf.set x.toNat (mrk lf x - 1)) (if mrk lf x - 1=0 then nx++ [x] else nx):=by rw [aI h,khN]
theorem set_same {α: Type} {l: List α} {j: Nat} {x: α} (h: l[j]? =some x): l.set j x=l:=by
 apply List.ext_getElem?
 intro i;rw [List.getElem?_set]
 split
 ·rename_i e
  subst e;rw [if_pos (List.getElem?_eq_some_iff.1 h).1,h]
 ·rfl
theorem K0.at_ {B: List Tm} {k: Nat} {us: List (List Int)} {lf nx: List Int} (h: K0 B k us lf nx) (hk: k < B.length): lf[k]? =some 0:=by
 have:=h.lt k hk;rw [if_neg (by omega),List.getD_eq_getElem?_getD,List.getElem?_eq_getElem (by rw [h.ll];exact hk)] at this;rw [List.getElem?_eq_getElem (by rw [h.ll];exact hk)];exact congrArg some this
theorem K0.free {n: Nat} {B: List Tm} (hG: Gst n B) {k: Nat} {us: List (List Int)} {lf nx: List Int} (h: K0 B k us lf nx) (hk: k < B.length) (h0: dps B k= []): K0 B (k+1) us lf (nx++ [(k: Int)]):=by
 have:=h.step hG hk;rw [h0] at this;change K0 B (k+1) us (lf.set k 0) (if (0: Int)=0 then nx++ [(k: Int)] else nx) at this
 rwa [set_same (h.at_ hk),if_pos rfl] at this
theorem dps_free {B: List Tm} {k: Nat} {t: Tm} (h: B[k]? =some t) (h0: t.kind=0): dps B k= []:=by unfold dps;rw [getD_some h,if_pos h0]
theorem dps_some {B: List Tm} {k: Nat} {t: Tm} (h: B[k]? =some t) (h0: ¬ t.kind=0): dps B k=varRL [t] []:=by unfold dps;rw [getD_some h,if_neg h0]
theorem sv_sz {sv: List SV} {m: Nat} (h: ∀ j: Nat,((sv.map SV.xs).getD j []).length≤m): ∀ s ∈ sv,s.xs.length≤m:=fun s hs=>by
 obtain⟨j,hj⟩:=List.getElem?_of_mem hs;have:=h j
 rwa [ch hj] at this
theorem dT {α: Type} {p: α→Prop} {l: List α} {j: Nat} {x: α} (h: ∀ y ∈ l,p y) (hx: p x): ∀ y ∈ l.set j x,p y:=fun y hy=>by
 rcases List.mem_or_eq_of_mem_set hy with h1 | h1
 ·exact h y h1
 ·rw [h1];exact hx
theorem map_sv_set {sv: List SV} {j: Nat} {s: SV}:(sv.set j s).map SV.xs=(sv.map SV.xs).set j s.xs:=by rw [List.map_set]
theorem fN {v: Value} {e: Ent} {ty n: Nat} {sv: List SV} (h: Row v e ty 1 n (gfl SV.cells sv)): sv.length=n:=by
 have:=h.1;rw [bZ SV.len] at this;omega
theorem dC {α: Type} {l: List α} {j: Nat} {x y: α} (h:(l.set j x)[j]? =some y): y=x:=by
 rw [List.getElem?_set,if_pos rfl] at h
 split at h
 ·exact(Option.some.inj h).symm
 ·cases h
noncomputable def isB (B: List Tm): Bool:=(decide (((B.length: Nat): Int)≤100000)&&elsU B.length 0 B)&&acycB B
theorem bk {B: List Tm}: isB B=true↔Gst B.length B∧Acyc B:=by
 unfold isB;simp only [Bool.and_eq_true,decide_eq_true_eq,eB]
 constructor
 ·rintro⟨⟨h1,h2⟩,h3⟩;exact⟨Gst.of (by omega) h2,h3⟩
 ·rintro⟨h1,h2⟩;refine⟨⟨by have:=h1.le;omega,fB fun j t hj=>?_⟩,h2⟩;rw [Nat.zero_add];exact fE.2 (h1.el j t hj)
theorem isB_stU {B: List Tm} (h: isB B=true): stU B=true:=fe (bk.1 h).1 (bk.1 h).2
end Go.Vk
namespace Go.Vk.Try
open Go.RowKit
set_option maxHeartbeats 1000000 in
theorem c_Acyclic {w0: World} {H: PHeap} (hI: Inv w0 H []) {A: Option Addr} {c: Nat} {ts: List Tm} (hr: RowT H A c ts) (hG: Gst ts.length ts): Calls prog 53 #[(.agg #[(.slice A ts.length c)])] w0 (Rs w0 H (.bool (acycB ts))):=by
 have hS:=Step.refl hI;have hlr:=hr.len;have hle_:=hG.le;refine enter [(.agg #[(.slice A ts.length c)])] func53 Y ntmps53 Y fun a ha=>?_;refine wp_seq (ab (lin Y (aG (cs:= #[(.slice A ts.length c)]) hS ha Y Y Y fun b1 a w hS ha=>?_)));refine Ls Y ha fun a ha=>?_;refine wpList_nil (aa (wp_seq (ab (lin Y (ac (f:=0) (o2:=0) T24 T22 Y Y Y Y ha Y Y fun a ha=>?_)))));refine lin Y (af (v:=(.slice A ts.length c)) T22 Y ha Y (hS.blkL 0 rfl) Y Y fun a ha=>?_);refine lin Y (aE T22.und ha Y Y fun a ha=>?_);refine Ls Y ha fun a ha=>?_;refine wpList_nil (aa (wp_seq (ab (Lm Y ha fun a ha=>?_))));refine lin Y (ep (k:=ts.length) T114.und T43 Y Y hS ha Y Y (by omega) (by omega) (by omega) Y Y fun b3 a w hR3 hS ha=>?_);rw [zcells_sv] at hR3 hS;refine Ls Y ha fun a ha=>?_;refine wpList_nil (aa (wp_seq (ab (Lm Y ha fun a ha=>?_))));refine lin Y (ep (k:=ts.length) T43.und T3 Y Y hS ha Y Y (by omega) (by omega) (by omega) Y Y fun b5 a w hR5 hS ha=>?_);rw [zcells_int] at hR5 hS;refine Ls Y ha fun a ha=>?_;refine wpList_nil (aa (wp_seq (ab (Ls Y ha fun a ha=>?_))));refine wpList_nil (aa (wp_seq (wp_seq (ab (Ls Y ha fun a ha=>?_)))));refine wpList_nil (aa (wp_block ?_));have hS:=hS.cons_none (en:=noEnt) Y;refine aP (fun nn_ a w=> ∃(H8: PHeap),∃(k: Nat),∃(fam: List Ent),∃(xs_0: List SV),∃(en_0: Ent),∃(xs_1: List Int),∃(en_1: Ent),∃(xs_2: List Int),∃(en_2: Ent),∃(A_2: Option Addr),∃(c_2: Nat),Le H H8∧nn_=ts.length - k∧Has [] a 121 [(1,(pB b1)),(3,(iV ((ts.length: Nat): Int))),(4,(.slice (some ⟨b3,0,none⟩) ts.length ts.length)),(5,(.slice (some ⟨b5,0,none⟩) ts.length ts.length)),(6,(.slice A_2 xs_2.length c_2)),(7,(iV ((k: Nat): Int)))]∧Step w0 H [] w H8 (en_2::en_1::en_0::(some b1,(.cells #[(.slice A ts.length c)] 24 (0,0)))::fam)∧(Row (.slice (some ⟨b3,0,none⟩) ts.length ts.length) en_0 43 1 ts.length (gfl SV.cells xs_0))∧(Row (.slice (some ⟨b5,0,none⟩) ts.length ts.length) en_1 3 1 ts.length (ints xs_1))∧(xs_1.length=ts.length)∧(Row (.slice A_2 xs_2.length c_2) en_2 3 1 xs_2.length (ints xs_2))∧(Fam 3 xs_0 fam)∧(K0 ts k (xs_0.map SV.xs) xs_1 xs_2)∧(∀ y ∈ xs_1,0≤y∧y≤4000)∧(k≤ts.length)) _ ⟨H,0,(List.replicate ts.length noEnt),(List.replicate ts.length SV.zero),(some b3,.cells (gfl SV.cells (List.replicate ts.length SV.zero)).toArray 43 (0,0)),(List.replicate ts.length 0),(some b5,.cells (ints (List.replicate ts.length 0)).toArray 3 (0,0)), [],noEnt,none,0,Le.refl _,rfl,ha.pk Y,(Step.fam0 (Es:= [noEnt,(some b5,.cells (ints (List.replicate ts.length 0)).toArray 3 (0,0)),(some b3,.cells (gfl SV.cells (List.replicate ts.length SV.zero)).toArray 43 (0,0)),(some b1,(.cells #[(.slice A ts.length c)] 24 (0,0)))]) hS ts.length),hR3,hR5,(by simp),(by simpa using (Row.nil 3 1)),(Fam.zero 3 ts.length),(by rw [List.map_replicate];exact K0.zero ts),(fun y hy=>by have h_:=(List.mem_replicate.1 hy).2;omega),(by omega)⟩ ?_;intro n8 a w hh;obtain⟨H8,k,fam,xs_0,en_0,xs_1,en_1,xs_2,en_2,A_2,c_2,hle8,hn8,ha,hS,hR_0,hR_1,hL_1,hR_2,hF,hK,hbn,hk⟩:=hh;have hr:=hr.mono hle8;have hsl_:=fN hR_0;have hnl_:=hK.nl;refine wp_seq (wp_seq (ab (Lm Y ha fun a ha=>?_)));refine Lm Y ha fun a ha=>?_;refine lin Y (aY (i:=((k: Nat): Int)) (j:=((ts.length: Nat): Int)) ha Y Y Y fun a ha=>?_);refine wpList_nil (aa (al (t:=22) ha Y (fun h9 ha=>?_) (fun h9 ha=>?_)))
 ·refine ar ha Y (wp_skip (aa (wp_seq (wp_block (wp_seq (wp_seq (ab (lin Y (ac (f:=0) (o2:=0) T24 T22 Y Y Y Y ha Y Y fun a ha=>?_)))))))));refine lin Y (af (v:=(.slice A ts.length c)) T22 Y ha Y (hS.blkL 3 rfl) Y Y fun a ha=>?_);refine Lm Y ha fun a ha=>?_;obtain⟨t10,b10,off10,e10,cs10,fz10,A10,c10,ht10,hA10,hb10,hc10,hr10⟩:=hr.get (j:=k) (by omega);refine lin Y (av (b:=b10) (o:=off10) (j:=k) T22.und T26 hA10 ha Y Y (by omega) (by omega) Y fun a ha=>?_);refine lin Y (ac (f:=0) (o2:=(off10+k * 4+0)) T26 T3 Y Y Y Y ha Y Y fun a ha=>?_);refine lin Y (af (v:=(iV t10.kind)) T3 Y ha Y (hS.blkH hb10) (hc10 0 _ Y) Y fun a ha=>?_);refine lin Y (a7 (i:=t10.kind) (j:=0) ha Y Y Y fun a ha=>?_);refine wpList_nil (aa (aH (t:=31) ha Y (fun h11 ha=>?_) (fun h11 ha=>?_)))
  ·have hbt_:=hG.bnd ht10 h11;have hdp_:=dps_some ht10 h11;have hrl: ∀ y ∈ varRL [t10] [],0≤y∧y.toNat < ts.length:=fun y hy=>by rw [← hdp_] at hy;have:=fh hG hy;omega
   have hln_:(varRL [t10] []).length≤4000:=by have h1_:=eu [t10] [];have h2_:=cM hbt_.1;rw [Tm.szL,Tm.szL,List.length_nil] at h1_;omega
   refine ar ha Y (wp_seq (ab (lin Y (ac (f:=0) (o2:=0) T24 T22 Y Y Y Y ha Y Y fun a ha=>?_))));refine lin Y (af (v:=(.slice A ts.length c)) T22 Y ha Y (hS.blkL 3 rfl) Y Y fun a ha=>?_);refine Lm Y ha fun a ha=>?_;obtain⟨t12,b12,off12,e12,cs12,fz12,A12,c12,ht12,hA12,hb12,hc12,hr12⟩:=hr.get (j:=k) (by omega);refine lin Y (av (b:=b12) (o:=off12) (j:=k) T22.und T26 hA12 ha Y Y (by omega) (by omega) Y fun a ha=>?_);have hte12:=Option.some.inj (ht12.symm.trans ht10);rw [← hte12] at hdp_ hrl hln_ hbt_;refine lin Y (ag (vs:=(tL t12 A12 c12)) T26 Y ha Y (hS.blkH hb12) Y hc12 Y fun a ha=>?_);refine lin Y (aD (vs:= [(0,(tv t12 A12 c12))]) (cells:=(tL t12 A12 c12)) T22.und T26 hS ha (ha.evp Y) Y Y Y Y fun b13 a w hS ha=>?_);obtain⟨H13,hS,hle13,hb13⟩:=hS.give;have hr12:=hr12.mono hle13;have hr13: RowT H13 (some ⟨b13,0,none⟩) 1 [t12]:=RowT.of_lit ([⟨t12,A12,c12⟩]: List TV) hb13 (AllR.cons hr12 (AllR.nil _)) (by simp) Y;have hk15:=c_VarsOf (ts:= [t12]) hS.inv.nil hr13 (by rw [Tm.szL,Tm.szL];have:=cM hbt_.1;omega);refine lin Y (Co func79 ha Y (hk15) ?_);rintro e w ⟨A14,c14,en14,rfl,hR14,hc14⟩;refine⟨_,rfl,fun a ha=>?_⟩;have hS:=hS.call_own hc14;refine Ls Y ha fun a ha=>?_;refine wpList_nil (aa (wp_seq (ab (Lm Y ha fun a ha=>?_))));refine Lm Y ha fun a ha=>?_;refine Lm Y ha fun a ha=>?_;refine lin Y (aE T43.und ha Y Y fun a ha=>?_);obtain⟨b17,cap17,cur17,hv17,he17,hc17, -⟩:=hR_1.at_ (j:=k) (by omega);have hA17:((some ⟨b5,0,none⟩): Option Addr)=some ⟨b17,0,none⟩:=by injection hv17
   obtain⟨x17,hx17⟩: ∃ x,xs_1[k]? =some x:=⟨_,List.getElem?_eq_getElem (by first | omega |(simp;omega))⟩;have hc17:=hc17 0 (iV x17) (by omega) (bg hx17);refine lin Y (av (b:=b17) (o:=0) (j:=k) T43.und T3 hA17 ha Y Y (by omega) (by omega) Y fun a ha=>?_);refine lin Y (bP (j:=k) T3 hS (i:=2) Y hR_1 Y hA17 (by omega) Y ha Y Y Y Y fun en18 a w hR18 he18 hS ha=>?_);rw [show (Value.cells _).toList= [.int .i64 (((varRL ([t12]) []).length: Nat): Int)] from rfl,cK (by first | omega |(simp;omega))] at hR18;refine wpList_nil (aa (wp_seq (ab (Ls Y ha fun a ha=>?_))));refine wpList_nil (aa (wp_block (aP (fun nn_ a w=> ∃(H19: PHeap),∃(k2: Nat),∃(fam2: List Ent),∃(xs_3: List SV),∃(en_3: Ent),Le H13 H19∧nn_=(varRL [t12] []).length - k2∧Has [] a 121 [(1,(pB b1)),(3,(iV ((ts.length: Nat): Int))),(4,(.slice (some ⟨b3,0,none⟩) ts.length ts.length)),(5,(.slice (some ⟨b5,0,none⟩) ts.length ts.length)),(6,(.slice A_2 xs_2.length c_2)),(7,(iV ((k: Nat): Int))),(8,(.slice A14 ((varRL ([t12]) []).length) c14)),(9,(iV ((k2: Nat): Int)))]∧Step w0 H [] w H19 (en14::en_2::en18::en_3::(some b1,(.cells #[(.slice A ts.length c)] 24 (0,0)))::fam2)∧(Row (.slice (some ⟨b3,0,none⟩) ts.length ts.length) en_3 43 1 ts.length (gfl SV.cells xs_3))∧(Fam 3 xs_3 fam2)∧(usA (xs_3.map SV.xs) (k: Int) ((varRL [t12] []).drop k2)=usA (xs_0.map SV.xs) (k: Int) (varRL [t12] []))∧(∀ s ∈ xs_3,s.xs.length≤k+k2)∧(k2≤(varRL [t12] []).length)) _ ⟨H13,0,fam,xs_0,en_0,Le.refl _,rfl,ha.pk Y,hS,hR_0,hF,(by rw [List.drop_zero]),(sv_sz hK.sz),(by omega)⟩ ?_)));intro n19 a w hh;obtain⟨H19,k2,fam2,xs_3,en_3,hle19,hn19,ha,hS,hR_3,hF2,hU,hsz,hk2⟩:=hh;have hsl2_:=fN hR_3;refine wp_seq (wp_seq (ab (Lm Y ha fun a ha=>?_)));refine Lm Y ha fun a ha=>?_;refine lin Y (aE T43.und ha Y Y fun a ha=>?_);refine lin Y (aY (i:=((k2: Nat): Int)) (j:=(((varRL ([t12]) []).length: Nat): Int)) ha Y Y Y fun a ha=>?_);refine wpList_nil (aa (al (t:=47) ha Y (fun h20 ha=>?_) (fun h20 ha=>?_)))
   ·refine ar ha Y (wp_skip (aa (wp_seq (wp_block ?_))));obtain⟨bg21,capg21,curg21,hvg21,heg21,hcg21, -⟩:=hR14.at_ (j:=k2) (by omega);have hAg21:(A14: Option Addr)=some ⟨bg21,0,none⟩:=by injection hvg21
    obtain⟨xg21,hxg21⟩: ∃ x,(varRL ([t12]) [])[k2]? =some x:=⟨_,List.getElem?_eq_getElem (by omega)⟩;have hcg21:=hcg21 0 (iV xg21) (by omega) (bg hxg21);have hxr_:=hrl _ (List.mem_of_getElem? hxg21);obtain⟨sf22,enf22,hsf22,henf22,hRf22⟩:=hF2.get (j:=(Int.toNat xg21)) (by omega);have hS:=Step.expose (Es:= [en14,en_2,en18,en_3,(some b1,(.cells #[(.slice A ts.length c)] 24 (0,0)))]) hS henf22;obtain⟨xf22,bf22,capf22,curf22,hxf22,hvf22,hef22,hcf22⟩:=Row.getG SV.len (by decide) hR_3 (j:=(Int.toNat xg21)) (by omega);obtain rfl: xf22=sf22:=Option.some.inj (hxf22.symm.trans hsf22);have hAf22:((some ⟨b3,0,none⟩): Option Addr)=some ⟨bf22,0,none⟩:=by injection hvf22
    have hszx_:=hsz _ (List.mem_of_getElem? hsf22);have hS:=hS.front 5 rfl;have hS_:=hS;refine As.c_draw_head (ini:=(As.il [(14, [enf22])])) (sup:=(As.sl [])) (als:= [14]) (s0:=⟨H19,fun _=>none⟩) (L:=(en14::en_2::en18::en_3::(some b1,(.cells #[(.slice A ts.length c)] 24 (0,0)))::(fam2.eraseIdx (Int.toNat xg21)))) (N:=121) (E:= [(1,(pB b1)),(3,(iV ((ts.length: Nat): Int))),(4,(.slice (some ⟨b3,0,none⟩) ts.length ts.length)),(5,(.slice (some ⟨b5,0,none⟩) ts.length ts.length)),(6,(.slice A_2 xs_2.length c_2)),(7,(iV ((k: Nat): Int))),(8,(.slice A14 ((varRL ([t12]) []).length) c14)),(9,(iV ((k2: Nat): Int)))]) 15 [FcV (.slice (some ⟨b3,0,none⟩) ts.length ts.length),FcV (.slice A14 ((varRL ([t12]) []).length) c14),FcV (iV ((k2: Nat): Int)),FcV (.pointer (some ⟨bg21,0+k2 * 1,none⟩)),FcV (iV xg21),FcV (.slice (some ⟨b3,0,none⟩) ts.length ts.length),FcV (.slice A14 ((varRL ([t12]) []).length) c14),FcV (iV ((k2: Nat): Int)),FcV (.pointer (some ⟨bg21,0+k2 * 1,none⟩)),FcV (iV xg21),FcV (.pointer (some ⟨bf22,0+(Int.toNat xg21) * 1,none⟩)),FcV (.slice xf22.A xf22.xs.length xf22.c),FcV (iV ((k: Nat): Int)),fun q_ v=>(fun H v=> ∃ b,v=.slice (some ⟨b,0,none⟩) 1 1∧H b=some (.cells #[(iV ((k: Nat): Int))] 3 (0,0))) q_.H v,fun s v=> ∃(A: Option Addr) (c: Nat) (en: Ent),s.ax 14=some [en]∧v=.slice A ((xf22.xs++ [((k: Nat): Int)]).length) c∧Row (.slice A ((xf22.xs++ [((k: Nat): Int)]).length) c) en 3 1 ((xf22.xs++ [((k: Nat): Int)]).length) (ints (xf22.xs++ [((k: Nat): Int)]))] mixed Y Y Y (As.M1 (As.M1 (As.M1 (As.M1 (As.M1 (As.M1 (As.M1 (As.M1 (As.M1 (As.M1 (As.M1 (As.M1 (As.M1 (As.Monos.cons (fun _ _ v hl h=>(fun _ _ _ hl ⟨b,h,hb⟩=>⟨b,h,hl _ _ hb⟩: ∀(H H': PHeap) (v: Value),Le H H'→(fun H v=> ∃ b,v=.slice (some ⟨b,0,none⟩) 1 1∧H b=some (.cells #[(iV ((k: Nat): Int))] 3 (0,0))) H v→(fun H v=> ∃ b,v=.slice (some ⟨b,0,none⟩) 1 1∧H b=some (.cells #[(iV ((k: Nat): Int))] 3 (0,0))) H' v) _ _ _ hl.le h) (As.Monos.cons (fun _ _ _ hl ⟨A,c,en,h,e⟩=>⟨A,c,en,hl.get h,e⟩) (As.Monos.nil)))))))))))))))) (fun _=>rfl) hS (ha.pk Y) (As.QuietsI.c4 ?_ ?_ ?_ ?_ (As.QuietsI.c4 ?_ ?_ ?_ ?_ (As.QuietsI.c4 ?_ ?_ ?_ ?_ (As.QuietsI.c2 ?_ ?_ (As.QuietsI.cons ?_ (As.QuietsI.nil)))))) (fun f_ a w s_ hls hS ha hdr_=>?_)
    ·refine As.Qx Y fun a w H_ ax_ hle hax_ hS ha hd hls=>?_;have hSf:=hS;exact am ha Y Y fun a ha=>As.ql ha hSf
    ·refine As.Qx Y fun a w H_ ax_ hle hax_ hS ha hd hls=>?_;have hSf:=hS;exact am ha Y Y fun a ha=>As.ql ha hSf
    ·refine As.Qx Y fun a w H_ ax_ hle hax_ hS ha hd hls=>?_;have hSf:=hS;exact am ha Y Y fun a ha=>As.ql ha hSf
    ·refine As.Qx1 1 rfl fun a w H_ ax_ hle hax_ hS ha hd hls=>?_;obtain⟨_,ha,rfl⟩:=hd.g ha 2 rfl;have hSf:=hS;exact av (b:=bg21) (o:=0) (j:=k2) T43.und T3 hAg21 ha Y Y (by omega) (by omega) Y fun a ha=>As.ql ha hSf
    ·refine As.Qx1 3 rfl fun a w H_ ax_ hle hax_ hS ha hd hls=>?_;have hSf:=hS;have hS:=Step.dropN _ _ hS;exact af (v:=(iV xg21)) T3 Y ha Y (hS.blkL 0 (b:=bg21) (o:=.cells curg21 3 (0,0)) (by rw [← heg21];rfl)) hcg21 Y fun a ha=>As.ql ha hSf
    ·refine As.Qx Y fun a w H_ ax_ hle hax_ hS ha hd hls=>?_;have hSf:=hS;exact am ha Y Y fun a ha=>As.ql ha hSf
    ·refine As.Qx Y fun a w H_ ax_ hle hax_ hS ha hd hls=>?_;have hSf:=hS;exact am ha Y Y fun a ha=>As.ql ha hSf
    ·refine As.Qx Y fun a w H_ ax_ hle hax_ hS ha hd hls=>?_;have hSf:=hS;exact am ha Y Y fun a ha=>As.ql ha hSf
    ·refine As.Qx1 6 rfl fun a w H_ ax_ hle hax_ hS ha hd hls=>?_;obtain⟨_,ha,rfl⟩:=hd.g ha 7 rfl;have hSf:=hS;exact av (b:=bg21) (o:=0) (j:=k2) T43.und T3 hAg21 ha Y Y (by omega) (by omega) Y fun a ha=>As.ql ha hSf
    ·refine As.Qx1 8 rfl fun a w H_ ax_ hle hax_ hS ha hd hls=>?_;have hSf:=hS;have hS:=Step.dropN _ _ hS;exact af (v:=(iV xg21)) T3 Y ha Y (hS.blkL 0 (b:=bg21) (o:=.cells curg21 3 (0,0)) (by rw [← heg21];rfl)) hcg21 Y fun a ha=>As.ql ha hSf
    ·refine As.Qx1 5 rfl fun a w H_ ax_ hle hax_ hS ha hd hls=>?_;obtain⟨_,ha,rfl⟩:=hd.g ha 9 rfl;have hSf:=hS;exact av (b:=bf22) (o:=0) (j:=(Int.toNat xg21)) T114.und T43 hAf22 ha Y Y (by omega) (by omega) Y fun a ha=>As.ql ha hSf
    ·refine As.Qx1 10 rfl fun a w H_ ax_ hle hax_ hS ha hd hls=>?_;have hSf:=hS;have hS:=Step.dropN _ _ hS;exact af (v:=(.slice xf22.A xf22.xs.length xf22.c)) T43 Y ha Y (hS.blkL 3 (b:=bf22) (o:=.cells curf22 43 (0,0)) (by rw [← hef22];rfl)) (hcf22 0 _ Y) Y fun a ha=>As.ql ha hSf
    ·refine As.Qx Y fun a w H_ ax_ hle hax_ hS ha hd hls=>?_;have hSf:=hS;exact am ha Y Y fun a ha=>As.ql ha hSf
    ·refine As.Qx1 12 rfl fun a w H_ ax_ hle hax_ hS ha hd hls=>?_;have hSf:=hS;have hSr:=Step.dropN _ _ hS;refine id (aD (vs:= [(0,(iV ((k: Nat): Int)))]) (cells:= [(iV ((k: Nat): Int))]) T43.und T3 hS ha (ha.evp Y) Y Y Y Y fun b24 a w hS ha=>?_);obtain⟨H24,hS,hle24,hb24⟩:=hS.give;exact As.qdone (s:=⟨H_,ax_⟩) hle24 ha hS ⟨_,rfl,hb24⟩
    ·refine As.Qx1 11 rfl fun a w H_ ax_ hle hax_ hS ha hd hls=>?_;obtain⟨_,ha,b24,rfl,hb24⟩:=hd.g ha 13 rfl;have hS: Step w0 H [] w H_ (enf22::(As.aents (As.il [(14, [enf22])]) (As.sl []) [] ax_++As.aents (As.il [(14, [enf22])]) (As.sl []) [] ax_++(en14::en_2::en18::en_3::(some b1,(.cells #[(.slice A ts.length c)] 24 (0,0)))::(fam2.eraseIdx (Int.toNat xg21))))):=As.opn (s:=⟨H_,ax_⟩) [] [14] [] [enf22] rfl (As.con0s hax_ Y) hS;refine id (a0 (news:=(ints [((k: Nat): Int)])) (xs:=(ints xf22.xs)) T43.und T3 Y Y hS hRf22 ha Y Y Y (fun _=>⟨b24,0,_,_,_,rfl,hS.blkH hb24,ae Y⟩) (bB Y) (by omega) Y Y fun v25 en25 a w hR25 hS ha=>?_);rw [← List.map_append] at hR25;obtain⟨A25,c25,rfl⟩:=hR25.slice;have hn_:(xf22.xs.length+1)=(xf22.xs++ [((k: Nat): Int)]).length:=by have h_:=hR25.1;simp only [List.length_map] at h_;omega
     rw [show Value.slice A25 (xf22.xs.length+1) c25=Value.slice A25 (xf22.xs++ [((k: Nat): Int)]).length c25 from by rw [hn_]] at ha;rw [hn_] at hR25;exact As.qown (i:=14) (dst:=some 64) (s:=⟨H_,ax_⟩) (E:= [en25]) [] [14] [] rfl Y hax_ (Le.refl _) ha.dfr (As.has_at ha) hS As.con1 ⟨_,_,_,rfl,rfl,hR25⟩
    obtain⟨H26,ax_⟩:=s_;have hle26: Le H19 H26:=hls.le;dsimp only at hdr_ hS;obtain⟨_,ha,rfl⟩:=As.Dd ha hdr_ 0 rfl;obtain⟨_,ha,rfl⟩:=As.Dd ha hdr_ 4 rfl;obtain⟨_,ha,A25,c25,en25,hx_25,rfl,hR25⟩:=As.Dd ha hdr_ 14 rfl;have hx_25: ax_ 14=some [en25]:=hx_25;have hS: Step w0 H [] w H26 (en25::en14::en_2::en18::en_3::(some b1,(.cells #[(.slice A ts.length c)] 24 (0,0)))::(fam2.eraseIdx (Int.toNat xg21))):=by
     have h_:=hS;unfold As.aents at h_;simp only [List.flatMap_cons,List.flatMap_nil,As.conE,show (As.sl []) 14=none from rfl,hx_25,Option.isSome_some,Option.getD_some,cond_true,cond_false,List.cons_append,List.nil_append,List.append_nil] at h_;exact h_
    refine any1 (i:=15) (by kernel_rfl) Y Y (av (b:=bf22) (o:=0) (j:=(Int.toNat xg21)) T114.und T43 hAf22 ha Y Y (by omega) (by omega) Y fun a ha=>?_);refine any1 (i:=16) (by kernel_rfl) Y Y (bP (j:=(Int.toNat xg21)) T43 hS (i:=4) Y hR_3 Y hAf22 (by omega) Y ha Y Y Y Y fun en27 a w hR27 he27 hS ha=>?_);rw [show (Value.cells _).toList=SV.cells ⟨A25,c25,(xf22.xs++ [((k: Nat): Int)])⟩ from rfl,splice_sv (by omega)] at hR27;refine any0 (by kernel_rfl) ?_;refine au (aa (ab (Lm Y ha fun a ha=>?_)));refine lin Y (aN (i:=((k2: Nat): Int)) (j:=1) ha Y Y Y (by omega) fun a ha=>?_);refine Ls Y ha fun a ha=>?_;refine wpList_nil (aa (?_));have hS:=hS.front 5 rfl;have hS:=hS.front 5 rfl;have hS:=hS.front 5 rfl;have hS:=hS.front 5 rfl;have hS:=hS.front 5 rfl;have hS:=Step.hide (Es:= [en14,en_2,en18,en27,(some b1,(.cells #[(.slice A ts.length c)] 24 (0,0)))]) (e':=en25) henf22 hS;exact⟨(varRL [t12] []).length - (k2+1),by omega,H26,(k2+1),(fam2.set (Int.toNat xg21) en25),(xs_3.set (Int.toNat xg21) ⟨A25,c25,(xf22.xs++ [((k: Nat): Int)])⟩),en27,(hle19.trans (hle26)),rfl,ha.pk Y,hS,hR27,(Fam.set hF2 (s:=⟨A25,c25,(xf22.xs++ [((k: Nat): Int)])⟩) hR25),(by rw [← hU,usA_cons hxg21,map_sv_set,ch hsf22]),(dT (fun s hs=>by have:=hsz s hs;omega) (by rw [List.length_append];have:=hsz _ (List.mem_of_getElem? hsf22);simp only [List.length_cons,List.length_nil];omega)),(by omega)⟩
   ·refine an ha Y (wp_exit (aq (aq (aF (aa (wp_seq (ab (Lm Y ha fun a ha=>?_))))))));refine Lm Y ha fun a ha=>?_;obtain⟨b28,cap28,cur28,hv28,he28,hc28, -⟩:=hR18.at_ (j:=k) (by omega);have hA28:((some ⟨b5,0,none⟩): Option Addr)=some ⟨b28,0,none⟩:=by injection hv28
    obtain⟨x28,hx28⟩: ∃ x,(xs_1.set k (((varRL ([t12]) []).length: Nat): Int))[k]? =some x:=⟨_,List.getElem?_eq_getElem (by first | omega |(simp;omega))⟩;have hc28:=hc28 0 (iV x28) (by omega) (bg hx28);refine lin Y (av (b:=b28) (o:=0) (j:=k) T43.und T3 hA28 ha Y Y (by omega) (by omega) Y fun a ha=>?_);refine lin Y (af (v:=(iV x28)) T3 Y ha Y (hS.blkL 2 (b:=b28) (o:=.cells cur28 3 (0,0)) (by rw [← he28];rfl)) hc28 Y fun a ha=>?_);refine lin Y (aV (i:=x28) (j:=0) ha Y Y Y fun a ha=>?_);refine wpList_nil (aa (al (t:=70) ha Y (fun h29 ha=>?_) (fun h29 ha=>?_)))
    ·refine ar ha Y (ab (Lm Y ha fun a ha=>?_));refine Lm Y ha fun a ha=>?_;refine lin Y (aD (vs:= [(0,(iV ((k: Nat): Int)))]) (cells:= [(iV ((k: Nat): Int))]) T43.und T3 hS ha (ha.evp Y) Y Y Y Y fun b30 a w hS ha=>?_);obtain⟨H30,hS,hle30,hb30⟩:=hS.give;have hr30: RowI H30 (some ⟨b30,0,none⟩) 1 [((k: Nat): Int)]:=RowI.of_lit [((k: Nat): Int)] hb30 (by simp) Y;have hS:=hS.front 1 rfl;refine lin Y (a0 (news:=(ints [((k: Nat): Int)])) (xs:=(ints xs_2)) T43.und T3 Y Y hS hR_2 ha Y Y Y (fun _=>⟨b30,0,_,_,_,rfl,hS.blkH hb30,ae Y⟩) (bB Y) (by omega) Y Y fun v31 en31 a w hR31 hS ha=>?_);rw [← List.map_append] at hR31;obtain⟨A31,c31,rfl⟩:=hR31.slice;have hn_:(xs_2.length+1)=(xs_2++ [((k: Nat): Int)]).length:=by have h_:=hR31.1;simp only [List.length_map] at h_;omega
     rw [show Value.slice A31 (xs_2.length+1) c31=Value.slice A31 (xs_2++ [((k: Nat): Int)]).length c31 from by rw [hn_]] at ha;rw [hn_] at hR31;refine Ls Y ha fun a ha=>?_;refine wpList_nil (au (aa (ab (Lm Y ha fun a ha=>?_))));refine lin Y (aN (i:=((k: Nat): Int)) (j:=1) ha Y Y Y (by omega) fun a ha=>?_);refine Ls Y ha fun a ha=>?_;refine wpList_nil (aa (?_));have hye_:=dC hx28;have hK':=hK.step hG (by omega);rw [hdp_,← hU,List.drop_of_length_le (show (varRL [t12] []).length≤k2 by omega),usA] at hK';rw [hye_] at h29;rw [if_pos h29] at hK';have hS:=hS.front 1 rfl;have hS:=hS.drop;exact⟨ts.length - (k+1),by omega,H30,(k+1),fam2,xs_3,en_3,(xs_1.set k (((varRL ([t12]) []).length: Nat): Int)),en18,(xs_2++ [((k: Nat): Int)]),en31,A31,c31,(hle8.trans (hle13.trans (hle19.trans (hle30)))),rfl,ha.pk Y,hS,hR_3,hR18,(by first | exact hL_1 |(rw [List.length_set];exact hL_1)),(by simpa using hR31),hF2,hK',(dT hbn (by omega)),(by omega)⟩
    ·refine an ha Y (wp_skip (au (aa (ab (Lm Y ha fun a ha=>?_)))));refine lin Y (aN (i:=((k: Nat): Int)) (j:=1) ha Y Y Y (by omega) fun a ha=>?_);refine Ls Y ha fun a ha=>?_;refine wpList_nil (aa (?_));have hye_:=dC hx28;have hK':=hK.step hG (by omega);rw [hdp_,← hU,List.drop_of_length_le (show (varRL [t12] []).length≤k2 by omega),usA] at hK';rw [hye_] at h29;rw [if_neg h29] at hK';have hS:=hS.drop;exact⟨ts.length - (k+1),by omega,H19,(k+1),fam2,xs_3,en_3,(xs_1.set k (((varRL ([t12]) []).length: Nat): Int)),en18,xs_2,en_2,A_2,c_2,(hle8.trans (hle13.trans (hle19))),rfl,ha.pk Y,hS,hR_3,hR18,(by first | exact hL_1 |(rw [List.length_set];exact hL_1)),(by simpa using hR_2),hF2,hK',(dT hbn (by omega)),(by omega)⟩
  ·have hdp_:=dps_free ht10 h11;refine an ha Y (wp_skip (aa (wp_seq (ab (Lm Y ha fun a ha=>?_)))));refine Lm Y ha fun a ha=>?_;obtain⟨b32,cap32,cur32,hv32,he32,hc32, -⟩:=hR_1.at_ (j:=k) (by omega);have hA32:((some ⟨b5,0,none⟩): Option Addr)=some ⟨b32,0,none⟩:=by injection hv32
   obtain⟨x32,hx32⟩: ∃ x,xs_1[k]? =some x:=⟨_,List.getElem?_eq_getElem (by first | omega |(simp;omega))⟩;have hc32:=hc32 0 (iV x32) (by omega) (bg hx32);refine lin Y (av (b:=b32) (o:=0) (j:=k) T43.und T3 hA32 ha Y Y (by omega) (by omega) Y fun a ha=>?_);refine lin Y (af (v:=(iV x32)) T3 Y ha Y (hS.blkL 1 (b:=b32) (o:=.cells cur32 3 (0,0)) (by rw [← he32];rfl)) hc32 Y fun a ha=>?_);refine lin Y (aV (i:=x32) (j:=0) ha Y Y Y fun a ha=>?_);refine wpList_nil (aa (al (t:=70) ha Y (fun h33 ha=>?_) (fun h33 ha=>?_)))
   ·refine ar ha Y (ab (Lm Y ha fun a ha=>?_));refine Lm Y ha fun a ha=>?_;refine lin Y (aD (vs:= [(0,(iV ((k: Nat): Int)))]) (cells:= [(iV ((k: Nat): Int))]) T43.und T3 hS ha (ha.evp Y) Y Y Y Y fun b34 a w hS ha=>?_);obtain⟨H34,hS,hle34,hb34⟩:=hS.give;have hr34: RowI H34 (some ⟨b34,0,none⟩) 1 [((k: Nat): Int)]:=RowI.of_lit [((k: Nat): Int)] hb34 (by simp) Y;refine lin Y (a0 (news:=(ints [((k: Nat): Int)])) (xs:=(ints xs_2)) T43.und T3 Y Y hS hR_2 ha Y Y Y (fun _=>⟨b34,0,_,_,_,rfl,hS.blkH hb34,ae Y⟩) (bB Y) (by omega) Y Y fun v35 en35 a w hR35 hS ha=>?_);rw [← List.map_append] at hR35;obtain⟨A35,c35,rfl⟩:=hR35.slice;have hn_:(xs_2.length+1)=(xs_2++ [((k: Nat): Int)]).length:=by have h_:=hR35.1;simp only [List.length_map] at h_;omega
    rw [show Value.slice A35 (xs_2.length+1) c35=Value.slice A35 (xs_2++ [((k: Nat): Int)]).length c35 from by rw [hn_]] at ha;rw [hn_] at hR35;refine Ls Y ha fun a ha=>?_;refine wpList_nil (au (aa (ab (Lm Y ha fun a ha=>?_))));refine lin Y (aN (i:=((k: Nat): Int)) (j:=1) ha Y Y Y (by omega) fun a ha=>?_);refine Ls Y ha fun a ha=>?_;refine wpList_nil (aa (?_));exact⟨ts.length - (k+1),by omega,H34,(k+1),fam,xs_0,en_0,xs_1,en_1,(xs_2++ [((k: Nat): Int)]),en35,A35,c35,(hle8.trans (hle34)),rfl,ha.pk Y,hS,hR_0,hR_1,(by first | exact hL_1 |(rw [List.length_set];exact hL_1)),(by simpa using hR35),hF,(hK.free hG (by omega) hdp_),hbn,(by omega)⟩
   ·refine an ha Y (wp_skip (au (aa (ab (Lm Y ha fun a ha=>?_)))));refine lin Y (aN (i:=((k: Nat): Int)) (j:=1) ha Y Y Y (by omega) fun a ha=>?_);refine Ls Y ha fun a ha=>?_;refine wpList_nil (aa (?_));have hf_: False:=absurd (Option.some.inj (hx32.symm.trans (hK.at_ (by omega)))) h33;exact⟨ts.length - (k+1),by omega,H8,(k+1),fam,xs_0,en_0,xs_1,en_1,xs_2,en_2,A_2,c_2,(hle8),rfl,ha.pk Y,hS,hR_0,hR_1,(by first | exact hL_1 |(rw [List.length_set];exact hL_1)),(by simpa using hR_2),hF,hf_.elim,hbn,(by omega)⟩
 ·refine an ha Y (wp_exit (aq (aq (aF (aa (wp_seq (ab (Ls Y ha fun a ha=>?_))))))));refine wpList_nil (aa (wp_seq (wp_block ?_)));have hKI:=(show k=ts.length by omega) ▸ hK;have hKI:=K0.done hKI;refine aP (fun nn_ a w=> ∃(H36: PHeap),∃(d: Nat),∃(fam4: List Ent),∃(xs_4: List SV),∃(en_4: Ent),∃(xs_5: List Int),∃(en_5: Ent),∃(xs_6: List Int),∃(en_6: Ent),∃(A_6: Option Addr),∃(c_6: Nat),Le H8 H36∧nn_=ts.length - d∧Has [] a 121 [(3,(iV ((ts.length: Nat): Int))),(4,(.slice (some ⟨b3,0,none⟩) ts.length ts.length)),(5,(.slice (some ⟨b5,0,none⟩) ts.length ts.length)),(6,(.slice A_6 xs_6.length c_6)),(10,(iV ((d: Nat): Int)))]∧Step w0 H [] w H36 (en_6::en_5::en_4::(some b1,(.cells #[(.slice A ts.length c)] 24 (0,0)))::fam4)∧(Row (.slice (some ⟨b3,0,none⟩) ts.length ts.length) en_4 43 1 ts.length (gfl SV.cells xs_4))∧(Row (.slice (some ⟨b5,0,none⟩) ts.length ts.length) en_5 3 1 ts.length (ints xs_5))∧(xs_5.length=ts.length)∧(Row (.slice A_6 xs_6.length c_6) en_6 3 1 xs_6.length (ints xs_6))∧(Fam 3 xs_4 fam4)∧(KI ts d (xs_4.map SV.xs) xs_5 xs_6)∧(∀ y ∈ xs_5, -(400000000 *(d: Nat): Int)≤y∧y≤4000)) _ ⟨H8,0,fam,xs_0,en_0,xs_1,en_1,xs_2,en_2,A_2,c_2,Le.refl _,rfl,ha.pk Y,hS,hR_0,hR_1,hL_1,(by simpa using hR_2),hF,hKI,(fun y hy=>by have:=hbn y hy;omega)⟩ ?_;intro n36 a w hh;obtain⟨H36,d,fam4,xs_4,en_4,xs_5,en_5,xs_6,en_6,A_6,c_6,hle36,hn36,ha,hS,hR_4,hR_5,hL_5,hR_6,hF4,hI4,hb4⟩:=hh;have hsl4_:=fN hR_4;have hnl4_:=hI4.len;have hdl4_:=hI4.le;have hrg4: ∀ y ∈ xs_6,0≤y∧y.toNat < ts.length:=fun y hy=>by have:=hI4.rg y hy;omega
  refine wp_seq (wp_seq (ab (Lm Y ha fun a ha=>?_)));refine Lm Y ha fun a ha=>?_;refine lin Y (aE T43.und ha Y Y fun a ha=>?_);refine lin Y (aY (i:=((d: Nat): Int)) (j:=((xs_6.length: Nat): Int)) ha Y Y Y fun a ha=>?_);refine wpList_nil (aa (al (t:=78) ha Y (fun h37 ha=>?_) (fun h37 ha=>?_)))
  ·refine ar ha Y (wp_skip (aa (wp_block (wp_seq (ab (Lm Y ha fun a ha=>?_))))));refine Lm Y ha fun a ha=>?_;refine Lm Y ha fun a ha=>?_;obtain⟨b38,cap38,cur38,hv38,he38,hc38, -⟩:=hR_6.at_ (j:=d) (by omega);have hA38:(A_6: Option Addr)=some ⟨b38,0,none⟩:=by injection hv38
   obtain⟨x38,hx38⟩: ∃ x,xs_6[d]? =some x:=⟨_,List.getElem?_eq_getElem (by first | omega |(simp;omega))⟩;have hc38:=hc38 0 (iV x38) (by omega) (bg hx38);refine lin Y (av (b:=b38) (o:=0) (j:=d) T43.und T3 hA38 ha Y Y (by omega) (by omega) Y fun a ha=>?_);have hrg38:=hrg4 _ (List.mem_of_getElem? hx38);refine lin Y (af (v:=(iV x38)) T3 Y ha Y (hS.blkL 0 (b:=b38) (o:=.cells cur38 3 (0,0)) (by rw [← he38];rfl)) hc38 Y fun a ha=>?_);obtain⟨sf39,enf39,hsf39,henf39,hRf39⟩:=hF4.get (j:=(Int.toNat x38)) (by omega);have hS:=Step.expose (Es:= [en_6,en_5,en_4,(some b1,(.cells #[(.slice A ts.length c)] 24 (0,0)))]) hS henf39;obtain⟨xf39,bf39,capf39,curf39,hxf39,hvf39,hef39,hcf39⟩:=Row.getG SV.len (by decide) hR_4 (j:=(Int.toNat x38)) (by omega);obtain rfl: xf39=sf39:=Option.some.inj (hxf39.symm.trans hsf39);have hAf39:((some ⟨b3,0,none⟩): Option Addr)=some ⟨bf39,0,none⟩:=by injection hvf39
   refine lin Y (av (b:=bf39) (o:=0) (j:=(Int.toNat x38)) T114.und T43 hAf39 ha Y Y (by omega) (by omega) Y fun a ha=>?_);refine lin Y (af (v:=(.slice xf39.A xf39.xs.length xf39.c)) T43 Y ha Y (hS.blkL 2 (b:=bf39) (o:=.cells curf39 43 (0,0)) (by rw [← hef39];rfl)) (hcf39 0 _ Y) Y fun a ha=>?_);refine Ls Y ha fun a ha=>?_;refine wpList_nil (aa (wp_seq (wp_seq (ab (Ls Y ha fun a ha=>?_)))));refine wpList_nil (aa (wp_block ?_));have hzl_:=hI4.sz (Int.toNat x38);rw [ch hsf39] at hzl_;have hrs_: ∀ y ∈ xf39.xs,0≤y∧y.toNat < ts.length:=fun y hy=>by
    have h_:=(hI4.mem (Int.toNat x38) y).1 (by rw [ch hsf39];exact hy);obtain⟨m,h1,h2,_⟩:=h_;omega
   refine aP (fun nn_ a w=> ∃(H41: PHeap),∃(k6: Nat),∃(xs_7: List Int),∃(en_7: Ent),∃(xs_8: List Int),∃(en_8: Ent),∃(A_8: Option Addr),∃(c_8: Nat),Le H36 H41∧nn_=xf39.xs.length - k6∧Has [] a 121 [(3,(iV ((ts.length: Nat): Int))),(4,(.slice (some ⟨b3,0,none⟩) ts.length ts.length)),(5,(.slice (some ⟨b5,0,none⟩) ts.length ts.length)),(6,(.slice A_8 xs_8.length c_8)),(10,(iV ((d: Nat): Int))),(11,(.slice xf39.A xf39.xs.length xf39.c)),(12,(iV ((k6: Nat): Int)))]∧Step w0 H [] w H41 (en_8::en_7::en_4::(some b1,(.cells #[(.slice A ts.length c)] 24 (0,0)))::enf39::(fam4.eraseIdx (Int.toNat x38)))∧(Row (.slice (some ⟨b5,0,none⟩) ts.length ts.length) en_7 3 1 ts.length (ints xs_7))∧(xs_7.length=ts.length)∧(Row (.slice A_8 xs_8.length c_8) en_8 3 1 xs_8.length (ints xs_8))∧(khN (xf39.xs.drop k6) xs_7 xs_8=khN xf39.xs xs_5 xs_6)∧(∀ y ∈ xs_7, -(400000000 *(d: Nat)+k6: Int)≤y∧y≤4000)∧(xs_8.length≤xs_6.length+k6)∧(k6≤xf39.xs.length)) _ ⟨H36,0,xs_5,en_5,xs_6,en_6,A_6,c_6,Le.refl _,rfl,ha.pk Y,hS,hR_5,hL_5,(by simpa using hR_6),(by rw [List.drop_zero]),(fun y hy=>by have:=hb4 y hy;omega),(by omega),(by omega)⟩ ?_;intro n41 a w hh;obtain⟨H41,k6,xs_7,en_7,xs_8,en_8,A_8,c_8,hle41,hn41,ha,hS,hR_7,hL_7,hR_8,hN,hb7,hln8,hk6⟩:=hh;refine wp_seq (wp_seq (ab (Lm Y ha fun a ha=>?_)));refine Lm Y ha fun a ha=>?_;refine lin Y (aE T43.und ha Y Y fun a ha=>?_);refine lin Y (aY (i:=((k6: Nat): Int)) (j:=((xf39.xs.length: Nat): Int)) ha Y Y Y fun a ha=>?_);refine wpList_nil (aa (al (t:=89) ha Y (fun h42 ha=>?_) (fun h42 ha=>?_)))
   ·refine ar ha Y (wp_skip (aa (wp_seq (wp_block (wp_seq (ab (Lm Y ha fun a ha=>?_)))))));refine Lm Y ha fun a ha=>?_;refine Lm Y ha fun a ha=>?_;obtain⟨b43,cap43,cur43,hv43,he43,hc43, -⟩:=hRf39.at_ (j:=k6) (by omega);have hA43:(xf39.A: Option Addr)=some ⟨b43,0,none⟩:=by injection hv43
    obtain⟨x43,hx43⟩: ∃ x,xf39.xs[k6]? =some x:=⟨_,List.getElem?_eq_getElem (by first | omega |(simp;omega))⟩;have hc43:=hc43 0 (iV x43) (by omega) (bg hx43);refine lin Y (av (b:=b43) (o:=0) (j:=k6) T43.und T3 hA43 ha Y Y (by omega) (by omega) Y fun a ha=>?_);have hrg43:=hrs_ _ (List.mem_of_getElem? hx43);refine lin Y (af (v:=(iV x43)) T3 Y ha Y (hS.blkL 4 (b:=b43) (o:=.cells cur43 3 (0,0)) (by rw [← he43];rfl)) hc43 Y fun a ha=>?_);obtain⟨b44,cap44,cur44,hv44,he44,hc44, -⟩:=hR_7.at_ (j:=(Int.toNat x43)) (by omega);have hA44:((some ⟨b5,0,none⟩): Option Addr)=some ⟨b44,0,none⟩:=by injection hv44
    obtain⟨x44,hx44⟩: ∃ x,xs_7[(Int.toNat x43)]? =some x:=⟨_,List.getElem?_eq_getElem (by first | omega |(simp;omega))⟩;have hc44:=hc44 0 (iV x44) (by omega) (bg hx44);refine lin Y (av (b:=b44) (o:=0) (j:=(Int.toNat x43)) T43.und T3 hA44 ha Y Y (by omega) (by omega) Y fun a ha=>?_);have hby_:=hb7 _ (List.mem_of_getElem? hx44);refine lin Y (af (v:=(iV x44)) T3 Y ha Y (hS.blkL 1 (b:=b44) (o:=.cells cur44 3 (0,0)) (by rw [← he44];rfl)) hc44 Y fun a ha=>?_);refine lin Y (bz (i:=x44) (j:=1) ha Y Y Y (by omega) fun a ha=>?_);obtain⟨b45,cap45,cur45,hv45,he45,hc45, -⟩:=hR_7.at_ (j:=(Int.toNat x43)) (by omega);have hA45:((some ⟨b5,0,none⟩): Option Addr)=some ⟨b45,0,none⟩:=by injection hv45
    obtain⟨x45,hx45⟩: ∃ x,xs_7[(Int.toNat x43)]? =some x:=⟨_,List.getElem?_eq_getElem (by first | omega |(simp;omega))⟩;have hc45:=hc45 0 (iV x45) (by omega) (bg hx45);refine lin Y (av (b:=b45) (o:=0) (j:=(Int.toNat x43)) T43.und T3 hA45 ha Y Y (by omega) (by omega) Y fun a ha=>?_);refine lin Y (bP (j:=(Int.toNat x43)) T3 hS (i:=1) Y hR_7 Y hA45 (by omega) Y ha Y Y Y Y fun en46 a w hR46 he46 hS ha=>?_);rw [show (Value.cells _).toList= [.int .i64 (x44 - 1)] from rfl,cK (by first | omega |(simp;omega))] at hR46;refine wpList_nil (aa (wp_seq (ab (Lm Y ha fun a ha=>?_))));refine Lm Y ha fun a ha=>?_;refine Lm Y ha fun a ha=>?_;obtain⟨b47,cap47,cur47,hv47,he47,hc47, -⟩:=hRf39.at_ (j:=k6) (by omega);have hA47:(xf39.A: Option Addr)=some ⟨b47,0,none⟩:=by injection hv47
    obtain⟨x47,hx47⟩: ∃ x,xf39.xs[k6]? =some x:=⟨_,List.getElem?_eq_getElem (by first | omega |(simp;omega))⟩;have hc47:=hc47 0 (iV x47) (by omega) (bg hx47);refine lin Y (av (b:=b47) (o:=0) (j:=k6) T43.und T3 hA47 ha Y Y (by omega) (by omega) Y fun a ha=>?_);have hrg47:=hrs_ _ (List.mem_of_getElem? hx47);have hxe47: x47=x43:=Option.some.inj (hx47.symm.trans hx43);refine lin Y (af (v:=(iV x47)) T3 Y ha Y (hS.blkL 4 (b:=b47) (o:=.cells cur47 3 (0,0)) (by rw [← he47];rfl)) hc47 Y fun a ha=>?_);obtain⟨b48,cap48,cur48,hv48,he48,hc48, -⟩:=hR46.at_ (j:=(Int.toNat x47)) (by omega);have hA48:((some ⟨b5,0,none⟩): Option Addr)=some ⟨b48,0,none⟩:=by injection hv48
    obtain⟨x48,hx48⟩: ∃ x,(xs_7.set (Int.toNat x43) (x44 - 1))[(Int.toNat x47)]? =some x:=⟨_,List.getElem?_eq_getElem (by first | omega |(simp;omega))⟩;have hc48:=hc48 0 (iV x48) (by omega) (bg hx48);refine lin Y (av (b:=b48) (o:=0) (j:=(Int.toNat x47)) T43.und T3 hA48 ha Y Y (by omega) (by omega) Y fun a ha=>?_);refine lin Y (af (v:=(iV x48)) T3 Y ha Y (hS.blkL 1 (b:=b48) (o:=.cells cur48 3 (0,0)) (by rw [← he48];rfl)) hc48 Y fun a ha=>?_);refine lin Y (aV (i:=x48) (j:=0) ha Y Y Y fun a ha=>?_);refine wpList_nil (aa (al (t:=108) ha Y (fun h49 ha=>?_) (fun h49 ha=>?_)))
    ·refine ar ha Y (ab (Lm Y ha fun a ha=>?_));refine Lm Y ha fun a ha=>?_;refine Lm Y ha fun a ha=>?_;obtain⟨b50,cap50,cur50,hv50,he50,hc50, -⟩:=hRf39.at_ (j:=k6) (by omega);have hA50:(xf39.A: Option Addr)=some ⟨b50,0,none⟩:=by injection hv50
     obtain⟨x50,hx50⟩: ∃ x,xf39.xs[k6]? =some x:=⟨_,List.getElem?_eq_getElem (by first | omega |(simp;omega))⟩;have hc50:=hc50 0 (iV x50) (by omega) (bg hx50);refine lin Y (av (b:=b50) (o:=0) (j:=k6) T43.und T3 hA50 ha Y Y (by omega) (by omega) Y fun a ha=>?_);have hrg50:=hrs_ _ (List.mem_of_getElem? hx50);have hxe50: x50=x43:=Option.some.inj (hx50.symm.trans hx43);refine lin Y (af (v:=(iV x50)) T3 Y ha Y (hS.blkL 4 (b:=b50) (o:=.cells cur50 3 (0,0)) (by rw [← he50];rfl)) hc50 Y fun a ha=>?_);refine lin Y (aD (vs:= [(0,(iV x50))]) (cells:= [(iV x50)]) T43.und T3 hS ha (ha.evp Y) Y Y Y Y fun b51 a w hS ha=>?_);obtain⟨H51,hS,hle51,hb51⟩:=hS.give;have hr51: RowI H51 (some ⟨b51,0,none⟩) 1 [x50]:=RowI.of_lit [x50] hb51 (by simp) Y;refine lin Y (a0 (news:=(ints [x50])) (xs:=(ints xs_8)) T43.und T3 Y Y hS hR_8 ha Y Y Y (fun _=>⟨b51,0,_,_,_,rfl,hS.blkH hb51,ae Y⟩) (bB Y) (by omega) Y Y fun v52 en52 a w hR52 hS ha=>?_);rw [← List.map_append] at hR52;obtain⟨A52,c52,rfl⟩:=hR52.slice;have hn_:(xs_8.length+1)=(xs_8++ [x50]).length:=by have h_:=hR52.1;simp only [List.length_map] at h_;omega
     rw [show Value.slice A52 (xs_8.length+1) c52=Value.slice A52 (xs_8++ [x50]).length c52 from by rw [hn_]] at ha;rw [hn_] at hR52;refine Ls Y ha fun a ha=>?_;refine wpList_nil (au (aa (ab (Lm Y ha fun a ha=>?_))));refine lin Y (aN (i:=((k6: Nat): Int)) (j:=1) ha Y Y Y (by omega) fun a ha=>?_);refine Ls Y ha fun a ha=>?_;refine wpList_nil (aa (?_));rw [hxe47] at hx48;have hye_:=dC hx48;rw [hye_] at h49;have hmk_:=mrk_at hx44;exact⟨xf39.xs.length - (k6+1),by omega,H51,(k6+1),(xs_7.set (Int.toNat x43) (x44 - 1)),en46,(xs_8++ [x50]),en52,A52,c52,(hle41.trans (hle51)),rfl,ha.pk Y,hS,hR46,(by rw [List.length_set];exact hL_7),(by simpa using hR52),(by rw [hxe50,← hN,khN_cons hx43,hmk_,if_pos h49]),(dT (fun y hy=>by have:=hb7 y hy;omega) (by omega)),(by rw [List.length_append];simp only [List.length_cons,List.length_nil];omega),(by omega)⟩
    ·refine an ha Y (wp_skip (au (aa (ab (Lm Y ha fun a ha=>?_)))));refine lin Y (aN (i:=((k6: Nat): Int)) (j:=1) ha Y Y Y (by omega) fun a ha=>?_);refine Ls Y ha fun a ha=>?_;refine wpList_nil (aa (?_));rw [hxe47] at hx48;have hye_:=dC hx48;rw [hye_] at h49;have hmk_:=mrk_at hx44;exact⟨xf39.xs.length - (k6+1),by omega,H41,(k6+1),(xs_7.set (Int.toNat x43) (x44 - 1)),en46,xs_8,en_8,A_8,c_8,(hle41),rfl,ha.pk Y,hS,hR46,(by rw [List.length_set];exact hL_7),(by simpa using hR_8),(by rw [← hN,khN_cons hx43,hmk_,if_neg h49]),(dT (fun y hy=>by have:=hb7 y hy;omega) (by omega)),(by omega),(by omega)⟩
   ·refine an ha Y (wp_exit (aq (aq (aF (aa (ab (Lm Y ha fun a ha=>?_)))))));refine lin Y (aN (i:=((d: Nat): Int)) (j:=1) ha Y Y Y (by omega) fun a ha=>?_);refine Ls Y ha fun a ha=>?_;refine wpList_nil (au (aa (?_)));have hS:=Step.hide (Es:= [en_8,en_7,en_4,(some b1,(.cells #[(.slice A ts.length c)] 24 (0,0)))]) (e':=enf39) henf39 hS;rw [set_same henf39] at hS;have hst_:=hI4.step hG hx38;rw [ch hsf39,← hN,List.drop_of_length_le (show xf39.xs.length≤k6 by omega)] at hst_;exact⟨ts.length - (d+1),by omega,H41,(d+1),fam4,xs_4,en_4,xs_7,en_7,xs_8,en_8,A_8,c_8,(hle36.trans (hle41)),rfl,ha.pk Y,hS,hR_4,hR_7,hL_7,(by simpa using hR_8),hF4,hst_,(fun y hy=>by have:=hb7 y hy;omega)⟩
  ·refine an ha Y (wp_exit (aq (aq (aF (aa (wp_seq (ab (Lm Y ha fun a ha=>?_))))))));refine Lm Y ha fun a ha=>?_;refine lin Y (aV (i:=((d: Nat): Int)) (j:=((ts.length: Nat): Int)) ha Y Y Y fun a ha=>?_);refine Ls Y ha fun a ha=>?_;refine wpList_nil (aa (wp_ret (ret1 Y ha Y ?_)));refine⟨congrArg _ (congrArg _ ?_),hS.plain.drop_all⟩;exact(hI4.acycB hG (by omega)).symm
end Go.Vk.Try
namespace Go.Vk.Try
open Go.RowKit
theorem el_alg {a b r: Bool} (h:(!a||b)=r):(false||(a&&!b))=!r:=by subst h;cases a <;> cases b <;> rfl
set_option maxHeartbeats 1000000 in
theorem c_Is {w0: World} {H: PHeap} (hI: Inv w0 H []) {A: Option Addr} {c: Nat} {ts: List Tm} (hr: RowT H A c ts) (hsb: ∀ t ∈ ts,t.sz≤1000000000000∧strB t=true): Calls prog 13 #[(.agg #[(.slice A ts.length c)])] w0 (Rs w0 H (.bool (isB ts))):=by
 have hS:=Step.refl hI;have hlr:=hr.len;refine enter [(.agg #[(.slice A ts.length c)])] func13 Y ntmps13 Y fun a ha=>?_;refine wp_seq (ab (lin Y (aG (cs:= #[(.slice A ts.length c)]) hS ha Y Y Y fun b1 a w hS ha=>?_)));refine Ls Y ha fun a ha=>?_;refine wpList_nil (aa (wp_seq (ab (lin Y (ac (f:=0) (o2:=0) T24 T22 Y Y Y Y ha Y Y fun a ha=>?_)))));refine lin Y (af (v:=(.slice A ts.length c)) T22 Y ha Y (hS.blkL 0 rfl) Y Y fun a ha=>?_);refine lin Y (aE T22.und ha Y Y fun a ha=>?_);refine Ls Y ha fun a ha=>?_;refine wpList_nil (aa (wp_seq (wp_seq (ab (Lm Y ha fun a ha=>?_)))));refine lin Y (dc (i:=((ts.length: Nat): Int)) (j:=100000) ha Y Y Y fun a ha=>?_);refine wpList_nil (aa (al (t:=10) ha Y (fun h3 ha=>?_) (fun h3 ha=>?_)))
 ·refine ar ha Y (wp_seq (ab (Ls Y ha fun a ha=>?_)));refine wpList_nil (aa (wp_ret (ak (ret1 Y ha Y ?_))));refine⟨congrArg _ (congrArg _ ?_),hS.plain.drop_all⟩;unfold isB;rw [decide_eq_false (by omega)];rfl
 ·refine an ha Y (wp_skip (aa (wp_seq (wp_seq (ab (Ls Y ha fun a ha=>?_))))));refine wpList_nil (aa (wp_block ?_));refine aP (fun nn_ a w=> ∃(k: Nat),nn_=ts.length - k∧Has [] a 40 [(1,(pB b1)),(3,(iV ((ts.length: Nat): Int))),(4,(iV ((k: Nat): Int)))]∧Step w0 H [] w H [(some b1,(.cells #[(.slice A ts.length c)] 24 (0,0)))]∧(elsU ts.length k (ts.drop k)=elsU ts.length 0 ts)∧(k≤ts.length)) _ ⟨0,rfl,ha.pk Y,hS,rfl,by omega⟩ ?_;intro n4 a w hh;obtain⟨k,hn4,ha,hS,hE,hk⟩:=hh;refine wp_seq (wp_seq (ab (Lm Y ha fun a ha=>?_)));refine Lm Y ha fun a ha=>?_;refine lin Y (aY (i:=((k: Nat): Int)) (j:=((ts.length: Nat): Int)) ha Y Y Y fun a ha=>?_);refine wpList_nil (aa (al (t:=13) ha Y (fun h5 ha=>?_) (fun h5 ha=>?_)))
  ·refine ar ha Y (wp_skip (aa (wp_seq (wp_block (wp_seq (ab (lin Y (ac (f:=0) (o2:=0) T24 T22 Y Y Y Y ha Y Y fun a ha=>?_))))))));refine lin Y (af (v:=(.slice A ts.length c)) T22 Y ha Y (hS.blkL 0 rfl) Y Y fun a ha=>?_);refine Lm Y ha fun a ha=>?_;obtain⟨t6,b6,off6,e6,cs6,fz6,A6,c6,ht6,hA6,hb6,hc6,hr6⟩:=hr.get (j:=k) (by omega);refine lin Y (av (b:=b6) (o:=off6) (j:=k) T22.und T26 hA6 ha Y Y (by omega) (by omega) Y fun a ha=>?_);refine lin Y (ag (vs:=(tL t6 A6 c6)) T26 Y ha Y (hS.blkH hb6) Y hc6 Y fun a ha=>?_);refine lin Y (aC (cs:=aZ) T26 hS ha Y Y fun b7 a w hS ha=>?_);refine lin Y (aw (cs':=(tA t6 A6 c6)) T26 hS (i:=0) Y ha Y Y Y Y Y Y fun a w hS ha=>?_);refine wpList_nil (aa (wp_seq (wp_seq (ab (lin Y (ag (vs:=(tL t6 A6 c6)) T26 Y ha Y (hS.blkL 0 rfl) Y (ae Y) Y fun a ha=>?_))))));refine lin Y (Cs func52 ha Y (c_RFree hS.inv.nil hr6) hS fun a w ha hS=>?_);refine wpList_nil (aa (ap (t:=22) ha Y (fun h9 ha=>?_) (fun h9 ha=>?_)))
   ·refine ar ha Y (wp_exit (aq (aF (aa (ab (Lm Y ha fun a ha=>?_))))));refine lin Y (aN (i:=((k: Nat): Int)) (j:=1) ha Y Y Y (by omega) fun a ha=>?_);refine Ls Y ha fun a ha=>?_;refine wpList_nil (aa (?_));have hfe: elU ts.length k t6=true:=by
     have hf_: freeB t6=true:=by simpa using h9
     unfold elU okT;rw [hf_];rfl
    have hS:=hS.drop;exact⟨ts.length - (k+1),by omega,(k+1),rfl,ha.pk Y,hS,(by rw [← hE,bQ ht6,hfe,Bool.true_and]),(by omega)⟩
   ·refine an ha Y (wp_skip (aa (wp_seq (ce (w0:=w0) (H0:=H) (L0:= []) (H:=H) (L:= [(some b7,(.cells (tA t6 A6 c6) 26 (0,0))),(some b1,(.cells #[(.slice A ts.length c)] 24 (0,0)))]) (D:= []) (N:=40) (E:= [(1,(pB b1)),(3,(iV ((ts.length: Nat): Int))),(4,(iV ((k: Nat): Int))),(5,(pB b7)),(37,(.bool ((!(isR t6&&overR ((ts.length: Nat): Int) t6))||((decide (t6.kind=1))&&(decide (((k: Nat): Int)≤t6.n))))))]) (fun a w hS ha=>?_) ?_))));rotate_left
    ·refine lin Y (ag (vs:=(tL t6 A6 c6)) T26 Y ha Y (hS.blkL 0 rfl) Y (ae Y) Y fun a ha=>?_);refine Lm Y ha fun a ha=>?_;refine lin Y (Cs func14 ha Y (eY hS.inv.nil hr6 (hsb _ (List.mem_of_getElem? ht6)).1 (hsb _ (List.mem_of_getElem? ht6)).2) hS fun a w ha hS=>?_);refine lin Y (aJ ha Y Y fun a ha=>?_);refine Lm Y ha fun a ha=>?_;refine ap (t:=27) ha Y (fun h10 ha=>?_) (fun h10 ha=>?_)
     ·refine Lf Y ha Y Y fun a ha=>?_;refine Lf Y ha Y Y fun a ha=>?_;refine Lf Y ha Y Y fun a ha=>?_;refine Lf Y ha Y Y fun a ha=>?_;refine aO Y Y Y ha Y Y Y fun a ha=>?_;refine aO Y Y Y ha Y Y Y fun a ha=>?_;refine aO Y Y Y ha Y Y Y fun a ha=>?_;refine aO Y Y Y ha Y Y Y fun a ha=>?_;refine Lf Y ha Y Y fun a ha=>?_;refine lin Y (aj ha Y Y Y fun a ha=>?_);exact wpList_nil ⟨rfl,hS,Has.cons ha Y (Has.cons ha Y (Has.cons ha Y (Has.cons ha Y (Has.cons ha (by simp [lk,Nat.beq,h3,h5,h9,h10]) (ha.nil)))))⟩
     ·refine ad Y ha Y Y Y (ac (f:=0) (o2:=0) T26 T3 Y Y Y Y ha Y Y fun a ha=>?_);refine ad Y ha Y Y Y (af (v:=(iV t6.kind)) T3 Y ha Y (hS.blkL 0 rfl) Y Y fun a ha=>?_);refine ad Y ha Y Y Y (aV (i:=t6.kind) (j:=1) ha Y Y Y fun a ha=>?_);refine ad Y ha Y Y Y (am ha Y Y fun a ha=>?_);refine al (t:=31) ha Y (fun h11 ha=>?_) (fun h11 ha=>?_)
      ·refine ad Y ha Y Y Y (ac (f:=1) (o2:=1) T26 T3 Y Y Y Y ha Y Y fun a ha=>?_);refine ad Y ha Y Y Y (af (v:=(iV t6.n)) T3 Y ha Y (hS.blkL 0 rfl) Y Y fun a ha=>?_);refine ad Y ha Y Y Y (am ha Y Y fun a ha=>?_);refine ad Y ha Y Y Y (dD (i:=t6.n) (j:=((k: Nat): Int)) ha Y Y Y fun a ha=>?_);refine ad Y ha Y Y Y (aj ha Y Y Y fun a ha=>?_);refine lin Y (ah ha Y Y Y fun a ha=>?_);exact wpList_nil ⟨rfl,hS,Has.cons ha Y (Has.cons ha Y (Has.cons ha Y (Has.cons ha Y (Has.cons ha (by simp [lk,Nat.beq,h3,h5,h9,h10,h11]) (ha.nil)))))⟩
      ·refine Lf Y ha Y Y fun a ha=>?_;refine Lf Y ha Y Y fun a ha=>?_;refine Lf Y ha Y Y fun a ha=>?_;refine Lf Y ha Y Y fun a ha=>?_;refine ad Y ha Y Y Y (ah ha Y Y Y fun a ha=>?_);refine lin Y (ah ha Y Y Y fun a ha=>?_);exact wpList_nil ⟨rfl,hS,Has.cons ha Y (Has.cons ha Y (Has.cons ha Y (Has.cons ha Y (Has.cons ha (by simp [lk,Nat.beq,h3,h5,h9,h10,h11]) (ha.nil)))))⟩
    refine aa (ap (t:=37) ha Y (fun h12 ha=>?_) (fun h12 ha=>?_))
    ·refine ar ha Y (wp_seq (ab (Ls Y ha fun a ha=>?_)));refine wpList_nil (aa (wp_ret (aA (ak (ak (aA (ak (ret1 Y ha Y ?_))))))));refine⟨congrArg _ (congrArg _ ?_),hS.plain.drop_all⟩;have hfe: elU ts.length k t6=false:=by
      have hf_: freeB t6=false:=by simpa using h9
      unfold elU okT;rw [hf_];exact el_alg h12
     unfold isB;rw [← hE,bQ ht6,hfe,Bool.false_and,Bool.and_false];rfl
    ·refine an ha Y (wp_skip (au (aa (ab (Lm Y ha fun a ha=>?_)))));refine lin Y (aN (i:=((k: Nat): Int)) (j:=1) ha Y Y Y (by omega) fun a ha=>?_);refine Ls Y ha fun a ha=>?_;refine wpList_nil (aa (?_));have hfe: elU ts.length k t6=true:=by
      have hf_: freeB t6=false:=by simpa using h9
      unfold elU okT;rw [hf_];exact el_alg h12
     have hS:=hS.drop;exact⟨ts.length - (k+1),by omega,(k+1),rfl,ha.pk Y,hS,(by rw [← hE,bQ ht6,hfe,Bool.true_and]),(by omega)⟩
  ·have hel: elsU ts.length 0 ts=true:=by rw [← hE,List.drop_of_length_le (show ts.length≤k by omega)];rfl
   refine an ha Y (wp_exit (aq (aq (aF (aa (wp_seq (ab (lin Y (ag (vs:= [(.slice A ts.length c)]) T24 Y ha Y (hS.blkL 0 rfl) Y (ae Y) Y fun a ha=>?_)))))))));refine lin Y (Cs func53 ha Y (c_Acyclic hS.inv.nil hr (Gst.of (by omega) hel)) hS fun a w ha hS=>?_);refine Ls Y ha fun a ha=>?_;refine wpList_nil (aa (wp_ret (ret1 Y ha Y ?_)));refine⟨congrArg _ (congrArg _ ?_),hS.plain.drop_all⟩;unfold isB;rw [decide_eq_true (by omega),hel];rfl
end Go.Vk.Try
namespace Go.Vk
def impD (s u: List Tm): Bool × Bool:=((impU s u).1,decide ((impU s u).2=0))
theorem gve2 {B: List Tm} {a b: Tm} (h: isB B=true) (ha: okT B.length a=true) (hb: okT B.length b=true): gvE B [a,b]=0:=
 fR (isB_stU h) (List.all_eq_true.2 fun t ht=>by
  rcases List.mem_cons.1 ht with rfl | ht
  ·exact ha
  ·rw [List.mem_singleton.1 ht];exact hb)
theorem gve1 {B: List Tm} {a: Tm} (h: isB B=true) (ha: okT B.length a=true): gvE B [a]=0:=
 fR (isB_stU h) (List.all_eq_true.2 fun t ht=>by rw [List.mem_singleton.1 ht];exact ha)
theorem dw {B: List Tm} (h: isB B=true): ∃ σ,Can B σ:=exists_sol (bk.1 h).2 fun i t hi=>(bk.1 h).1.occV i t hi
theorem impD_iff {s u: List Tm} (hs: isB s=true) (hu: isB u=true) (h:(impD s u).2=true):(impD s u).1=true↔∀ σ,Sol s σ→Sol u σ:=
 impU_iff (bk.1 hs).1 (bk.1 hs).2 (bk.1 hu).1 (bk.1 hu).2 (of_decide_eq_true h)
theorem sameU_iff {B: List Tm} {a b: Tm} (h: isB B=true) (ha: okT B.length a=true) (hb: okT B.length b=true) (he:(sameU B a b).2=0):(sameU B a b).1=true↔∀ σ,Sol B σ→app σ a=app σ b:=by
 obtain⟨hG,hA⟩:=bk.1 h;unfold sameU at he ⊢;rw [if_pos (gve2 h ha hb)] at he ⊢;exact fF hG hA ha hb he
def Bnds (σ: Int→Tm) (i: Nat) (ts: List Tm): Prop:= ∀(j: Nat) (t: Tm),ts[j]? =some t→t.kind≠0→σ ((i+j: Nat): Int)=app σ t
theorem Bnds.cons {σ: Int→Tm} {i: Nat} {t: Tm} {ts: List Tm}: Bnds σ i (t::ts)↔(t.kind≠0→σ (i: Int)=app σ t)∧Bnds σ (i+1) ts:=by
 constructor
 ·refine fun h=>⟨fun hk=>h 0 t rfl hk,fun j u hj hu=>?_⟩;have:=h (j+1) u hj hu;rw [show i+1+j=i+(j+1) by omega];exact this
 ·rintro⟨h1,h2⟩ j u hj hu
  cases j with
  | zero=>obtain rfl:=Option.some.inj hj;exact h1 hu
  | succ j =>
   have:=h2 j u hj hu;rw [show i+(j+1)=i+1+j by omega];exact this
end Go.Vk
namespace Go.Vk.Try
open Go.RowKit
set_option maxHeartbeats 2000000 in
theorem cv {w0: World} {H: PHeap} (hI: Inv w0 H []) {As Au: Option Addr} {cs cu: Nat} {ss us: List Tm} (hs: RowT H As cs ss) (hu: RowT H Au cu us): Calls prog 17 #[(.agg #[(.slice As ss.length cs)]),(.agg #[(.slice Au us.length cu)])] w0 (fun e w'=> ∃ H',e=.returned (.tuple #[.bool (impD ss us).1,.bool (impD ss us).2])∧Step w0 H [] w' H' []):=by
 have hS:=Step.refl hI;refine enter [(.agg #[(.slice As ss.length cs)]),(.agg #[(.slice Au us.length cu)])] func17 Y ntmps17 Y fun a ha=>?_;refine wp_seq (ab (lin Y (aG (cs:= #[(.slice As ss.length cs)]) hS ha Y Y Y fun b1 a w hS ha=>?_)));refine lin Y (aG (cs:= #[(.slice Au us.length cu)]) hS ha Y Y Y fun b3 a w hS ha=>?_);refine Ls Y ha fun a ha=>?_;refine Ls Y ha fun a ha=>?_;refine wpList_nil (aa (wp_seq (ab (lin Y (ag (vs:= [(.slice As ss.length cs)]) T24 Y ha Y (hS.blkL 1 rfl) Y (ae Y) Y fun a ha=>?_)))));refine lin Y (ag (vs:= [(.slice Au us.length cu)]) T24 Y ha Y (hS.blkL 0 rfl) Y (ae Y) Y fun a ha=>?_);have hk6:=c_Implies hS.inv.nil hs hu;refine lin Y (Co func49 ha Y (hk6) ?_);rintro e w ⟨H5,rfl,hc5⟩;refine⟨_,rfl,fun a ha=>?_⟩;have hS:=hS.call hc5;refine Lm Y ha fun a ha=>?_;refine lin Y (ao (v:=(.bool ((impU ss us).1))) ha Y Y Y fun a ha=>?_);refine lin Y (ao (v:=(iV ((impU ss us).2))) ha Y Y Y fun a ha=>?_);refine Ls Y ha fun a ha=>?_;refine Ls Y ha fun a ha=>?_;refine wpList_nil (aa (wp_seq (ab (Lm Y ha fun a ha=>?_))));refine Lm Y ha fun a ha=>?_;refine lin Y (aV (i:=((impU ss us).2)) (j:=0) ha Y Y Y fun a ha=>?_);refine Ls Y ha fun a ha=>?_;refine Ls Y ha fun a ha=>?_;refine wpList_nil (aa (wp_ret (ret2 Y ha Y Y ?_)));exact⟨_,rfl,hS.drop_all⟩
end Go.Vk.Try
namespace Go.Vk
open Go.RowKit
section
variable {P: Program} {K: Act→World→Prop} {Q: Exit→Act→World→Prop} {D: List Deferred} {a: Act} {w: World} {N: Nat} {m: Env} {d: Nat} {ty: TypeId} {pos: String} {aft: Array Edge} {g: Option (Nat × Bool)} {x y: Operand} {t tx: TypeId} {p q: Bool}
theorem bool_eq (ht: P.underlying t=some .bool):(Op.equal t (.bool p) (.bool q)).run P w=.ok (p == q) w:=by
 have h: ∀ d: Nat,(Op.equalIn (d+1) t (.bool p) (.bool q)).run P w=.ok (p == q) w:=fun d=>by
  simp [Op.equalIn,run_underlying ht]
 simp [Op.equal,Op.maxDepth,h 9999]
theorem o_neb (ht: P.underlying t=some .bool) (ha: Has D a N m) (hx: ev m x=some (.bool p)) (hy: ev m y=some (.bool q)) (hd: Nat.blt d N=true) (k: ∀ a',Has D a' N ((d,.bool (!(p == q)))::m)→K a' w) :
  Oper.wp P ⟨some d,.binOp .neq t x y tx,ty,pos,aft,g⟩ a w K Q:=
 aT (by simp [execOp,ha.ev hx,ha.ev hy,eqGuard,binOp,bool_eq ht]) ha hd k
end
theorem rsP {P: Program} {n: Nat} {args: Array Value} {w: World} {H: PHeap} {v: Value} (h: Calls P n args w fun e w'=> ∃ H',e=.returned v∧Step w H [] w' H' []): Calls P n args w fun e w'=>e=.returned v∧Step w H [] w' H []:=
 h.mono fun e w' ⟨H',h1,h2⟩=>⟨h1,h2.plain⟩
end Go.Vk
namespace Go.Vk.Try
open Go.RowKit
theorem strBL_mem: ∀ {ts: List Tm},strBL ts=true→∀ t ∈ ts,strB t=true
 | [],_,t,ht=>by cases ht
 | u::us,h,t,ht=>by
  rw [strBL,Bool.and_eq_true] at h
  rcases List.mem_cons.1 ht with rfl | ht
  ·exact h.1
  ·exact strBL_mem h.2 t ht
theorem small_all {ts us: List Tm} (h:(!(smallB ts us))=false): ∀ t ∈ ts++us,t.sz≤1000000000000∧strB t=true:=by
 have h1: smallB ts us=true:=by simpa using h
 unfold smallB at h1;rw [Bool.and_eq_true] at h1;obtain⟨h2,h3,h4⟩:=dI (ts++us) 1200 1 h1.1;have:=h2 (by omega);intro t ht;have:=fy ht;exact⟨by omega,strBL_mem h4 t ht⟩
theorem dP {ts us: List Tm} (h:(!(smallB ts us))=false): ∀ t ∈ ts,t.sz≤1000000000000∧strB t=true:=fun t ht=>small_all h t (List.mem_append_left _ ht)
theorem dV {ts us: List Tm} (h:(!(smallB ts us))=false) {t: Tm} (ht: t ∈ us): t.sz≤1000000000000∧strB t=true:=small_all h t (List.mem_append_right _ ht)
end Go.Vk.Try
namespace Go.Vk.Try
open Go.RowKit
theorem c_twalk {ns: List Tm} {l: Nat} {Φ: Nat→PHeap→List Ent→Prop} (hY: ∀ k v W H1 L1,k < ns.length→NArg ns k H1 v→Φ k H1 L1→Inv W H1 L1→YieldAt Fence.wide 0 prog l #[v] W fun e W'=>e=.returned (.bool true)∧∃ H2 L2,Φ (k+1) H2 L2∧Step W H1 L1 W' H2 L2): ∀(t: Tm) (A: Option Addr) (c k: Nat) (rest: List Tm) (w0: World) (H: PHeap) (L1: List Ent),RowT H A c t.l→ns.drop k=nds t++rest→Φ k H L1→Inv w0 H L1→Calls prog 111 #[(tv t A c),(.func (.yield l) #[] #[])] w0 (fun e w'=>e=.returned (.bool true)∧∃ H2 L2,Φ (k+(nds t).length) H2 L2∧Step w0 H L1 w' H2 L2):=by
 refine Tm.ind fun t ih=>?_;intro A c k rest w0 H L1 hr hns hF hI;have hS:=Step.refl hI;have hlr:=hr.len;refine enter [(tv t A c),(.func (.yield l) #[] #[])] func111 Y ntmps111 Y fun a ha=>?_;refine wp_seq (ab (lin Y (aG (cs:=(tA t A c)) hS ha Y Y Y fun b1 a w hS ha=>?_)));refine Ls Y ha fun a ha=>?_;refine wpList_nil (aa (wp_seq (wp_seq (regionW ?_))));refine linW Y (am ha Y Y fun a ha=>?_);refine linW Y (ag (vs:=(tL t A c)) T26 Y ha Y (hS.blkL 0 rfl) Y (ae Y) Y fun a ha=>?_);refine linY Y (o_yield Y Y ha Y (hY k _ _ _ _ (List.getElem?_eq_some_iff.1 (nds_at hns)).1 ⟨_,_,_,nds_at hns,rfl,hr⟩ hF (Inv.tail (Es:= [(some b1,(.cells (tA t A c) 26 (0,0)))]) hS.inv)) fun a w ha hR_=>?_);obtain⟨H3,L3,hF3,hc3⟩:=hR_;have hS:=Step.call_tail (Es:= [(some b1,(.cells (tA t A c) 26 (0,0)))]) hS hc3;have hr:=hr.mono hc3.le;refine linW Y (aJ ha Y Y fun a ha=>?_);refine wpListIn_nil ?_;refine aa (an ha Y (wp_skip (aa (wp_seq (wp_seq (ab (lin Y (ac (f:=3) (o2:=3) T26 T22 Y Y Y Y ha Y Y fun a ha=>?_))))))));refine lin Y (af (v:=(.slice A t.l.length c)) T22 Y ha Y (hS.blkL 0 rfl) Y Y fun a ha=>?_);refine lin Y (aE T22.und ha Y Y fun a ha=>?_);refine Lm Y ha fun a ha=>?_;refine wpList_nil (aa (wp_block ?_));have hz_: Φ (k+1+(ndsL (t.l.take 0)).length) H3 L3:=by simpa [ndsL] using hF3
 refine aP (fun nn_ a w=> ∃(H4: PHeap),∃(j: Nat),∃(LL: List Ent),Le H3 H4∧nn_=t.l.length - j∧Has [] a 23 [(1,(.func (.yield l) #[] #[])),(12,(.slice A t.l.length c)),(13,(iV ((t.l.length: Nat): Int))),(14,(iV ((j: Nat): Int)))]∧Step w0 H L1 w H4 ((some b1,(.cells (tA t A c) 26 (0,0)))::LL)∧(j≤t.l.length)∧(Φ (k+1+(ndsL (t.l.take j)).length) H4 LL)) _ ⟨H3,0,L3,Le.refl _,rfl,ha.pk Y,hS,(by omega),hz_⟩ ?_;intro n4 a w hh;obtain⟨H4,j,LL,hle4,hn4,ha,hS,hj,hF⟩:=hh;have hr:=hr.mono hle4;refine wp_seq (ab (lin Y (aY (i:=((j: Nat): Int)) (j:=((t.l.length: Nat): Int)) ha Y Y Y fun a ha=>?_)));refine wpList_nil (aa (wp_seq (al (t:=15) ha Y (fun h5 ha=>?_) (fun h5 ha=>?_))))
 ·refine ar ha Y (wp_skip (aa (wp_seq (wp_block (wp_seq (ab ?_))))));obtain⟨t6,b6,off6,e6,cs6,fz6,A6,c6,ht6,hA6,hb6,hc6,hr6⟩:=hr.get (j:=j) (by omega);refine lin Y (av (b:=b6) (o:=off6) (j:=j) T22.und T26 hA6 ha Y Y (by omega) (by omega) Y fun a ha=>?_);refine lin Y (ag (vs:=(tL t6 A6 c6)) T26 Y ha Y (hS.blkH hb6) Y hc6 Y fun a ha=>?_);refine lin Y (aC (cs:=aZ) T26 hS ha Y Y fun b7 a w hS ha=>?_);refine lin Y (aw (cs':=(tA t6 A6 c6)) T26 hS (i:=0) Y ha Y Y Y Y Y Y fun a w hS ha=>?_);refine wpList_nil (aa (wp_seq (ab (lin Y (ag (vs:=(tL t6 A6 c6)) T26 Y ha Y (hS.blkL 0 rfl) Y (ae Y) Y fun a ha=>?_)))));refine Lm Y ha fun a ha=>?_;have hk10:=ih _ _ ht6 _ _ _ _ _ _ _ hr6 (nds_sub hns ht6) hF (Inv.tail (Es:= [(some b7,(.cells (tA t6 A6 c6) 26 (0,0))),(some b1,(.cells (tA t A c) 26 (0,0)))]) hS.inv);refine lin Y (Co func111 ha Y (hk10) ?_);rintro e w ⟨rfl,H9,L9,hF9,hc9⟩;refine⟨_,rfl,fun a ha=>?_⟩;have hS:=Step.call_tail (Es:= [(some b7,(.cells (tA t6 A6 c6) 26 (0,0))),(some b1,(.cells (tA t A c) 26 (0,0)))]) hS hc9;refine lin Y (aJ ha Y Y fun a ha=>?_);refine wpList_nil (aa (an ha Y (wp_skip (au (aa (ab (lin Y (aN (i:=((j: Nat): Int)) (j:=1) ha Y Y Y (by omega) fun a ha=>?_))))))));refine Lm Y ha fun a ha=>?_;refine wpList_nil (aa (?_));have hS:=hS.drop;exact⟨t.l.length - (j+1),by omega,H9,(j+1),L9,(hle4.trans (hc9.le)),rfl,ha.pk Y,hS,(by omega),(by rw [ndsL_snoc ht6,List.length_append,← Nat.add_assoc];exact hF9)⟩
 ·refine an ha Y (wp_exit (aq (aq (aF (aa (wp_seq (ab (Ls Y ha fun a ha=>?_))))))));refine wpList_nil (aa (wp_ret (ret1 Y ha Y ?_)));have hS:=hS.drop;have hn_: k+(nds t).length=k+1+(ndsL (t.l.take j)).length:=by rw [eU,List.take_of_length_le (show t.l.length≤j by omega),List.length_cons];omega
  rw [hn_];exact⟨rfl,_,_,hF,hS⟩
theorem c_tnodes1 {Hb: PHeap} {bt: Nat} {t: Tm} {A: Option Addr} {c: Nat} (hbt: Hb bt=some (.cells (tA t A c) 26 (0,0))) (hr: RowT Hb A c t.l): IterF prog 110 #[.pointer (some ⟨bt,0,none⟩)] (nds t).length (NArg (nds t)) Hb:=by
 intro l Φ w0 H L1 hY hle hF hI;have hr:=hr.mono hle;have hbt:=hle _ _ hbt;have hS:=Step.refl hI
 show Calls _ _ #[_,_] _ _
 refine enter [(.func (.yield l) #[] #[]),(pB bt)] func110 Y ntmps110 Y fun a ha=>?_;refine ab (lin Y (ag (vs:=(tL t A c)) T26 Y ha Y (hS.blkH hbt) Y (ae Y) Y fun a ha=>?_));refine Lm Y ha fun a ha=>?_;have hk2:=c_twalk hY _ _ _ 0 [] _ _ _ hr (by rw [List.drop_zero,List.append_nil]) hF (Inv.tail (Es:= []) hS.inv);refine lin Y (Co func111 ha Y (hk2) ?_);rintro e w ⟨rfl,H1,L1,hF1,hc1⟩;refine⟨_,rfl,fun a ha=>?_⟩;have hS:=Step.call_tail (Es:= []) hS hc1;refine wpList_nil (ret0 Y ha ?_);rw [Nat.zero_add] at hF1;exact⟨rfl,_,_,hF1,hS⟩
theorem c_tnodes {w0: World} {H: PHeap} (hI: Inv w0 H []) {t: Tm} {A: Option Addr} {c: Nat} (hr: RowT H A c t.l): Calls prog 94 #[(tv t A c)] w0 (fun e w'=> ∃ H' bt A c,e=.returned (.func (.func 110) #[] #[.pointer (some ⟨bt,0,none⟩)])∧H' bt=some (.cells (tA t A c) 26 (0,0))∧RowT H' A c t.l∧Step w0 H [] w' H' []):=by
 have hS:=Step.refl hI;refine enter [(tv t A c)] func94 Y ntmps94 Y fun a ha=>?_;refine wp_seq (ab (lin Y (aG (cs:=(tA t A c)) hS ha Y Y Y fun b1 a w hS ha=>?_)));refine Ls Y ha fun a ha=>?_;refine wpList_nil (aa (wp_seq (ab (lin Y (bK (fs:= #[]) (cs:= #[(pB b1)]) ha (ha.evs (xs:= []) Y) (ha.evs Y) Y fun a ha=>?_)))));refine Ls Y ha fun a ha=>?_;refine wpList_nil (aa (wp_ret (ret1 Y ha Y ?_)));obtain⟨HX,hS,hle,hb⟩:=(hS.front 0 rfl).give;exact⟨HX,_,A,c,rfl,hb,hr.mono hle,hS.drop_all⟩
set_option maxHeartbeats 2000000 in
theorem c_tvars {w0: World} {H: PHeap} (hI: Inv w0 H []) {A: Option Addr} {c: Nat} {ts: List Tm} (hr: RowT H A c ts) (hz: Tm.szL ts≤1000000) (hvb: ∀ x ∈ ndsL ts,x.kind=1→0≤x.n∧x.n < 1000000): Calls prog 77 #[(.slice A ts.length c)] w0 (fun e w'=> ∃ H' A c en,e=.returned (.slice A (varsN ts).length c)∧Row (.slice A (varsN ts).length c) en 3 1 (varsN ts).length (ints (varsN ts))∧Step w0 H [] w' H' [en]):=by
 have hS:=Step.refl hI;have hlr:=hr.len;refine enterM [(.slice A ts.length c)] func77 Y ntmps77 Y fun a ha=>?_;refine wp_seq (ab (Ls Y ha fun a ha=>?_));refine wpList_nil (aa (wp_seq (ab (lin Y (aC (cs:= #[(.slice none 0 0)]) T43 hS ha Y Y fun b1 a w hS ha=>?_)))));have hS:=hS.cons_none (en:=noEnt) Y;refine wpList_nil (aa (wp_seq (ab (lin Y (o_makeMap (k:=3) (e:=4) hS ha Y fun bm em4 a w hM hS ha=>?_)))));refine lin Y (aC (cs:= #[(.map none)]) T121 hS ha Y Y fun b6 a w hS ha=>?_);refine lin Y (aw (cs':= #[(.map (some bm))]) T121 hS (i:=0) Y ha Y Y Y Y Y Y fun a w hS ha=>?_);refine wpList_nil (aa (wp_seq (wp_seq (ab (Lm Y ha fun a ha=>?_)))));refine lin Y (aE T22.und ha Y Y fun a ha=>?_);refine Lm Y ha fun a ha=>?_;refine wpList_nil (aa (wp_block (aP (fun nn_ a w=> ∃(H8: PHeap),∃(k: Nat),∃(em: Ent),∃(rs: List Nat),∃(xs_0: List Int),∃(en_0: Ent),∃(A_0: Option Addr),∃(c_0: Nat),Le H H8∧nn_=ts.length - k∧Has (rs.map markOf) a 38 [(2,(.slice none 0 0)),(3,(pB b1)),(4,(pB b6)),(9,(.slice A ts.length c)),(10,(iV ((ts.length: Nat): Int))),(11,(iV ((k: Nat): Int)))]∧Step w0 H [] w H8 ((some b6,(.cells #[(.map (some bm))] 121 (0,0)))::em::en_0::(some b1,(.cells #[(.slice A_0 xs_0.length c_0)] 43 (0,0)))::(rs.map openBlk++ []))∧(Row (.slice A_0 xs_0.length c_0) en_0 3 1 xs_0.length (ints xs_0))∧(xs_0=(ndsL (ts.take k)).foldl newV [])∧(SetM prog 3 4 em bm xs_0.length xs_0.reverse)∧(k≤ts.length)) _ ⟨H,0,em4, [],([]: List Int),noEnt,none,0,Le.refl _,rfl,ha.pk Y,(by have h_:=hS;simpa using h_),(by simpa using (Row.nil 3 1)),rfl,hM,(by omega)⟩ ?_)));intro n8 a w hh;obtain⟨H8,k,em,rs,xs_0,en_0,A_0,c_0,hle8,hn8,ha,hS,hR_0,hv,hM,hk⟩:=hh;have hr:=hr.mono hle8;have hxl_: xs_0.length≤Tm.szL ts:=by rw [hv];have h1_:=fold_len (ndsL (ts.take k)) [];have h2_:=cg ts k;rw [dZ] at h1_;simp at h1_;omega
 refine wp_seq (ab (lin Y (aY (i:=((k: Nat): Int)) (j:=((ts.length: Nat): Int)) ha Y Y Y fun a ha=>?_)));refine wpList_nil (aa (wp_seq (al (t:=12) ha Y (fun h9 ha=>?_) (fun h9 ha=>?_))))
 ·refine ar ha Y (wp_skip (aa (wp_seq (wp_block (wp_seq (ab ?_))))));obtain⟨t10,b10,off10,e10,cs10,fz10,A10,c10,ht10,hA10,hb10,hc10,hr10⟩:=hr.get (j:=k) (by omega);refine lin Y (av (b:=b10) (o:=off10) (j:=k) T22.und T26 hA10 ha Y Y (by omega) (by omega) Y fun a ha=>?_);refine lin Y (ag (vs:=(tL t10 A10 c10)) T26 Y ha Y (hS.blkH hb10) Y hc10 Y fun a ha=>?_);refine lin Y (aC (cs:=aZ) T26 hS ha Y Y fun b11 a w hS ha=>?_);refine lin Y (aw (cs':=(tA t10 A10 c10)) T26 hS (i:=0) Y ha Y Y Y Y Y Y fun a w hS ha=>?_);refine wpList_nil (aa (wp_seq (ab (lin Y (ag (vs:=(tL t10 A10 c10)) T26 Y ha Y (hS.blkL 0 rfl) Y (ae Y) Y fun a ha=>?_)))));have hk14:=c_tnodes hS.inv.nil hr10;refine lin Y (Co func94 ha Y (hk14) ?_);rintro e w ⟨H13,bt13,A13,c13,rfl,hbt13,hr13,hc13⟩;refine⟨_,rfl,fun a ha=>?_⟩;have hS:=hS.call hc13;have hvb13: ∀ x ∈ nds t10,x.kind=1→0≤x.n∧x.n < 1000000:=fun x hx=>hvb x (by rw [dJ ht10];simp [hx]);have hns13:(nds t10).length≤Tm.szL ts:=by rw [← dZ,dJ ht10];simp;omega
  refine wpList_nil (aa (wp_block ?_));have hS:=hS.drop;obtain⟨o0_,ho0_⟩: ∃ o0,o0=xs_0:=⟨_,rfl⟩;refine c_range1 (D:=(rs.map markOf)) (N:=38) (m:= [(2,(.slice none 0 0)),(3,(pB b1)),(4,(pB b6)),(9,(.slice A ts.length c)),(10,(iV ((ts.length: Nat): Int))),(11,(iV ((k: Nat): Int))),(16,(.func (.func 110) #[] #[.pointer (some ⟨bt13,0,none⟩)]))]) (w0:=w0) (H0:=H) (L0:= []) (H:=H13) (L:=((some b6,(.cells #[(.map (some bm))] 121 (0,0)))::em::en_0::(some b1,(.cells #[(.slice A_0 xs_0.length c_0)] 43 (0,0)))::(rs.map openBlk++ []))) (n:=(nds t10).length) func110 Y Y Y Y (ha.pk Y) hS (c_tnodes1 hbt13 hr13) (fun kq H1 L1=> ∃(A: Option Addr) (c: Nat) (en em: Ent) (o: List Int),L1=((some b6,(.cells #[(.map (some bm))] 121 (0,0)))::em::en::(some b1,(.cells #[(.slice A o.length c)] 43 (0,0)))::(rs.map openBlk++ []))∧Le H13 H1∧Row (.slice A o.length c) en 3 1 o.length (ints o)∧SetM prog 3 4 em bm o.length o.reverse∧o.length≤o0_.length+kq∧o=((nds t10).take kq).foldl newV o0_) ⟨A_0,c_0,en_0,em,xs_0,rfl,Le.refl _,(by have h_:=hR_0;simpa using h_),(by have h_:=hM;simpa using h_),(by rw [ho0_];omega),by rw [List.take_zero,ho0_];rfl⟩ (fun kq v Hy E a2=> ∃(bq: Nat) (tq: Tm) (Aq: Option Addr) (cq: Nat),(nds t10)[kq]? =some tq∧v=tv tq Aq cq∧RowT Hy Aq cq tq.l∧E= [(some bq,.cells (tA tq Aq cq) 26 (0,0))]∧Has [] a2 38 [(2,(.slice none 0 0)),(3,(pB b1)),(4,(pB b6)),(7,(pB bq)),(9,(.slice A ts.length c)),(10,(iV ((ts.length: Nat): Int))),(11,(iV ((k: Nat): Int))),(16,(.func (.func 110) #[] #[.pointer (some ⟨bt13,0,none⟩)]))]) ?_ ?_ ?_
  ·rintro l kq v w el er Hy Ly a hk ⟨t_,A_,c_,ht_,rfl,hr_⟩ ⟨As,cs,es,ems,o,rfl,hleS,hR_,hM,hol,hof⟩ hS ha;have hsv_:=hS;refine bL Y (fun⟨_,_,h⟩=>by cases h.1) ?_;refine lin Y (aC (cs:=aZ) T26 hS ha Y Y fun b15 a w hS ha=>?_);refine lin Y (aw (cs':=(tA t_ A_ c_)) T26 hS (i:=0) Y ha Y Y Y Y Y Y fun a w hS ha=>?_);refine wpList_nil ?_;exact⟨rfl,_,⟨_,t_,A_,c_,ht_,rfl,hr_,rfl,ha.pk Y⟩,((hS.front 1 rfl).front 2 rfl).front 1 rfl⟩
  ·rintro l kq v W0 Hz Lz w el er Hy Ly E a hk _ ⟨As,cs,es,ems,o,rfl,hleS,hR_,hM,hol,hof⟩ ⟨bx,t_,A_,c_,ht_,rfl,hr_,rfl,ha⟩ hS;have hS: Step W0 Hz Lz w Hy (el::er::(some bx,(.cells (tA t_ A_ c_) 26 (0,0)))::(some b6,(.cells #[(.map (some bm))] 121 (0,0)))::ems::es::(some b1,(.cells #[(.slice As o.length cs)] 43 (0,0)))::(rs.map openBlk++ [])):=hS;have hcap_:=Row.cap hR_;have ho0l_:=congrArg List.length ho0_;have hvb_:=hvb13 _ (List.mem_of_getElem? ht_);refine wpIn_block ?_;refine wpIn_seq ?_;refine bL Y (fun h_=>by obtain⟨_,_,h_⟩:=h_;have h_:=And.left h_;cases h_) ?_;refine lin Y (ac (f:=0) (o2:=0) T26 T3 Y Y Y Y ha Y Y fun a ha=>?_);refine lin Y (af (v:=(iV t_.kind)) T3 Y ha Y (hS.blkL 2 rfl) Y Y fun a ha=>?_);refine lin Y (aV (i:=t_.kind) (j:=1) ha Y Y Y fun a ha=>?_);refine Lm Y ha fun a ha=>?_;refine al (t:=21) ha Y (fun h17 ha=>?_) (fun h17 ha=>?_)
   ·refine ad Y ha Y Y Y (af (v:=(.map (some bm))) T121 Y ha Y (hS.blkL 3 rfl) Y Y fun a ha=>?_);refine ad Y ha Y Y Y (ac (f:=1) (o2:=1) T26 T3 Y Y Y Y ha Y Y fun a ha=>?_);refine ad Y ha Y Y Y (af (v:=(iV t_.n)) T3 Y ha Y (hS.blkL 2 rfl) Y Y fun a ha=>?_);refine ad Y ha Y Y Y (o_lookupB T121.und T3.und T4 hS (i:=4) Y hM ha Y Y (by omega) Y fun a ha=>?_);refine ad Y ha Y Y Y (aJ ha Y Y fun a ha=>?_);refine lin Y (aj ha Y Y Y fun a ha=>?_);refine wpList_nil (aa (ap (t:=27) ha Y (fun h18 ha=>?_) (fun h18 ha=>?_)))
    ·refine cIn_true ha Y ?_;refine wpIn_seq ?_;refine bL Y (fun h_=>by obtain⟨_,_,h_⟩:=h_;have h_:=And.left h_;cases h_) ?_;refine lin Y (af (v:=(.map (some bm))) T121 Y ha Y (hS.blkL 3 rfl) Y Y fun a ha=>?_);refine lin Y (ac (f:=1) (o2:=1) T26 T3 Y Y Y Y ha Y Y fun a ha=>?_);refine lin Y (af (v:=(iV t_.n)) T3 Y ha Y (hS.blkL 2 rfl) Y Y fun a ha=>?_);have hS:=hS.front 4 rfl;refine lin Y (o_mapUpdB T121.und T3.und T4 hS hM ha Y Y Y (by omega) (by simp only [maxLen];omega) fun em19 a w hM hS ha=>?_);refine wpList_nil (aa (bL Y (fun h_=>by obtain⟨_,_,h_⟩:=h_;have h_:=And.left h_;cases h_) ?_));refine lin Y (af (v:=(.slice As o.length cs)) T43 Y ha Y (hS.blkL 6 rfl) Y Y fun a ha=>?_);refine lin Y (ac (f:=1) (o2:=1) T26 T3 Y Y Y Y ha Y Y fun a ha=>?_);refine lin Y (af (v:=(iV t_.n)) T3 Y ha Y (hS.blkL 3 rfl) Y Y fun a ha=>?_);refine lin Y (aD (vs:= [(0,(iV t_.n))]) (cells:= [(iV t_.n)]) T43.und T3 hS ha (ha.evp Y) Y Y Y Y fun b20 a w hS ha=>?_);obtain⟨H20,hS,hle20,hb20⟩:=hS.give;have hr20: RowI H20 (some ⟨b20,0,none⟩) 1 [t_.n]:=RowI.of_lit [t_.n] hb20 (by simp) Y;have hS:=hS.front 5 rfl;refine lin Y (a0 (news:=(ints [t_.n])) (xs:=(ints o)) T43.und T3 Y Y hS hR_ ha Y Y Y (fun _=>⟨b20,0,_,_,_,rfl,hS.blkH hb20,ae Y⟩) (bB Y) (by omega) Y Y fun v21 en21 a w hR21 hS ha=>?_);rw [← List.map_append] at hR21;obtain⟨A21,c21,rfl⟩:=hR21.slice;have hn_:(o.length+1)=(o++ [t_.n]).length:=by have h_:=hR21.1;simp only [List.length_map] at h_;omega
     rw [show Value.slice A21 (o.length+1) c21=Value.slice A21 (o++ [t_.n]).length c21 from by rw [hn_]] at ha;rw [hn_] at hR21;refine lin Y (aw (cs':= #[(.slice A21 ((o++ [t_.n]).length) c21)]) T43 hS (i:=6) Y ha Y Y Y Y Y Y fun a w hS ha=>?_);refine wpList_nil (au (?_));have hS:=hS.front 4 rfl;have hS:=hS.drop;have hS:=hS.front 5 rfl;have hS:=hS.front 1 rfl;have hS:=hS.front 2 rfl;have hS:=hS.front 5 rfl;have hS:=hS.front 5 rfl;have hS:=hS.front 5 rfl;have hz_:(o++ [t_.n])=newV o t_:=(newV_yes h17 (by simpa using h18)).symm;have hzl_:(newV o t_).length=o.length+1:=by rw [← hz_];simp
     exact⟨rfl,H20,((some b6,(.cells #[(.map (some bm))] 121 (0,0)))::em19::en21::(some b1,(.cells #[(.slice A21 (newV o t_).length c21)] 43 (0,0)))::(rs.map openBlk++ [])),⟨A21,c21,en21,em19,newV o t_,rfl,hleS.trans (hle20),(by rw [← hz_];exact hR21),(by rw [hzl_,← hz_,List.reverse_append];exact hM),by omega,ez ht_ hof⟩,by rw [← hz_];exact hS⟩
    ·refine cIn_false ha Y ?_;refine wpIn_skip ?_;refine au (?_);have hS:=hS.front 2 rfl;have hS:=hS.drop;have hz_: o=newV o t_:=(newV_old (by simpa using h18)).symm;have hzl_:(newV o t_).length=o.length:=by rw [← hz_]
     exact⟨rfl,Hy,((some b6,(.cells #[(.map (some bm))] 121 (0,0)))::ems::es::(some b1,(.cells #[(.slice As (newV o t_).length cs)] 43 (0,0)))::(rs.map openBlk++ [])),⟨As,cs,es,ems,newV o t_,rfl,hleS,(by rw [← hz_];exact hR_),(by rw [← hz_];exact hM),by omega,ez ht_ hof⟩,by rw [hzl_];exact hS⟩
   ·refine Lf Y ha Y Y fun a ha=>?_;refine Lf Y ha Y Y fun a ha=>?_;refine Lf Y ha Y Y fun a ha=>?_;refine Lf Y ha Y Y fun a ha=>?_;refine Lf Y ha Y Y fun a ha=>?_;refine lin Y (ah ha Y Y Y fun a ha=>?_);refine wpList_nil (aa (cIn_false ha Y ?_));refine wpIn_skip ?_;refine au (?_);have hS:=hS.front 2 rfl;have hS:=hS.drop;have hz_: o=newV o t_:=(eg h17).symm;have hzl_:(newV o t_).length=o.length:=by rw [← hz_]
    exact⟨rfl,Hy,((some b6,(.cells #[(.map (some bm))] 121 (0,0)))::ems::es::(some b1,(.cells #[(.slice As (newV o t_).length cs)] 43 (0,0)))::(rs.map openBlk++ [])),⟨As,cs,es,ems,newV o t_,rfl,hleS,(by rw [← hz_];exact hR_),(by rw [← hz_];exact hM),by omega,ez ht_ hof⟩,by rw [hzl_];exact hS⟩
  ·rintro r_ w Hs Ly a ⟨As,cs,es,ems,o,rfl,hleS,hR_,hM,hol,hof⟩ hS ha;have hS:=Step.marks (e:=openBlk r_) (M:= [(some b6,(.cells #[(.map (some bm))] 121 (0,0))),ems,es,(some b1,(.cells #[(.slice As o.length cs)] 43 (0,0)))]) (X:=(rs.map openBlk++ [])) hS;rw [List.take_of_length_le (Nat.le_refl _),ho0_] at hof;rw [ho0_] at hol;refine au (au (aa (ab (lin Y (aN (i:=((k: Nat): Int)) (j:=1) ha Y Y Y (by omega) fun a ha=>?_)))));refine Lm Y ha fun a ha=>?_;refine wpList_nil (aa (?_));exact⟨ts.length - (k+1),by omega,Hs,(k+1),ems,(r_::rs),o,es,As,cs,(hle8.trans (hc13.le.trans (hleS))),rfl,ha.pk Y,hS,(by simpa using hR_),(by rw [hof,hv,ndsL_snoc ht10,List.foldl_append]),hM,(by omega)⟩
 ·refine an ha Y (wp_exit (aq (aq (aF (aa (wp_seq (ab (lin Y (af (v:=(.slice A_0 xs_0.length c_0)) T43 Y ha Y (hS.blkL 3 rfl) Y Y fun a ha=>?_)))))))));refine Ls Y ha fun a ha=>?_;refine wpList_nil (aa (wp_ret ?_));have hS:=hS.drop;have hS:=hS.drop;have hS:=hS.front 1 rfl;have hS:=hS.drop;have hfin: varsN ts=xs_0:=by rw [hv,List.take_of_length_le (show ts.length≤k by omega)];rfl
  rw [hfin];exact retM1 Y hS.marks ha Y fun w hS=>⟨_,_,_,_,rfl,hR_0,hS⟩
end Go.Vk.Try
namespace Go.Vk
theorem opn_iff {B: List Tm} {v: Int}: opn B v=true↔¬ bound B v.toNat:=by
 refine⟨opn_free,fun h=>?_⟩;unfold opn;rw [decide_eq_true_eq];exact Classical.byContradiction fun h2=>h ⟨_,bj h2,h2⟩
theorem agree {n: Nat} {B: List Tm} (hG: Gst n B) (hA: Acyc B) {σ τ: Int→Tm} (hs: Sol B σ) (ht: Sol B τ) {t: Tm} (hO: OccV B.length t) (h: ∀ j,Reach B t j→opn B j=true→σ j=τ j): app σ t=app τ t:=by
 obtain⟨rk,hr⟩:=hA;have key: ∀(k: Nat) (j: Int),0≤j→rk j.toNat < k→(∀ v,Reach B (vr j) v→opn B v=true→σ v=τ v)→σ j=τ j:=by
  intro k
  induction k with
  | zero=>intro j _ h;omega
  | succ k ih =>
   intro j hj0 hk hh
   by_cases hb: bound B j.toNat
   ·obtain⟨u,hu,hbk⟩:=hb;have e:((j.toNat: Nat): Int)=j:=by omega
    have h1:=hs _ _ hu hbk;have h2:=ht _ _ hu hbk;rw [e] at h1 h2;rw [h1,h2];refine cN _ fun i hi=>ih i (hG.occV _ _ hu i hi).1 (by have:=hr _ _ hu hbk i hi;omega) fun v hv ho=>hh v (.step (j:=j) (by rw [bR];exact List.mem_singleton.2 rfl) hu hbk (.of_occ hi hv)) ho
   ·exact hh j (.occ (by rw [bR];exact List.mem_singleton.2 rfl)) (opn_iff.2 hb)
 exact cN _ fun j hj=>key _ j (hO j hj).1 (Nat.lt_succ_self _) fun v hv ho=>h v (.of_occ hj hv) ho
theorem ff {n: Nat} {t: Tm} (h: okT n t=true): OccV n t:=fun j hj=>fr h j hj
section
variable {s r: List Tm} {t u: Tm} (hs: isB s=true) (hr: isB r=true) (ht: okT s.length t=true) (hu: okT s.length u=true) (hl: s.length≤r.length) (he:(askU s t u).2=0) (hf:(askU r t u).2=0) (h1:(impD r s).2=true) (h2:(impD r s).1=true)
include hs hr ht hu hl he hf h1 h2
end
section
variable {s: List Tm} {t u: Tm} (hs: isB s=true) (ht: okT s.length t=true) (hu: okT s.length u=true)
include hs ht hu
end
section
variable {s r: List Tm} {t u: Tm} (hs: isB s=true) (hr: isB r=true) (ht: okT s.length t=true) (hu: okT s.length u=true) (hl: s.length≤r.length)
include hs ht hu
include hr hl
omit hr hl
end
end Go.Vk
namespace Go.Vk
open Go.RowKit
theorem fO (τ: Int→Tm) (j: Int): app τ (vr j)=τ j:=a8 (t:=vr j) rfl
theorem absorb {n: Nat} {B: List Tm} (hG: Gst n B) (hA: Acyc B) {σ τ: Int→Tm} (hc: Can B σ) (ht: Sol B τ) {t: Tm} (hO: OccV B.length t): app τ (app σ t)=app τ t:=by
 rw [fx];exact agree hG hA (hc.1.comp τ) ht hO fun j _ ho=>by
  show app τ (σ j)=τ j
  rw [hc.opn ho,fO]
theorem plainV_var {t: Tm} (h: plainV t=true) (hk: t.kind=1): t=vr t.n:=by
 cases t with
 | mk k n s l =>
  rw [plainV] at h;obtain rfl: k=1:=hk;rw [if_pos rfl,Bool.and_eq_true,decide_eq_true_eq,List.isEmpty_iff] at h;rw [h.1,h.2];rfl
theorem dq: ∀ ts: List Tm,plainVL ts=ts.all plainV
 | []=>rfl
 | t::ts=>by rw [plainVL,dq ts];rfl
theorem plainV_mk {k n: Int} {s: ByteArray} {l: List Tm} (hk: k≠1) (h: ∀ t ∈ l,plainV t=true): plainV (.mk k n s l)=true:=by
 rw [plainV,if_neg hk,dq];exact List.all_eq_true.2 h
theorem app_plain {σ: Int→Tm}: ∀ t: Tm,(∀ j ∈ occ t,plainV (σ j)=true)→plainV (app σ t)=true:=by
 refine Tm.ind fun t ih h=>?_
 by_cases hk: t.kind=1
 ·rw [a8 hk];exact h _ (by rw [bV,if_pos hk];exact List.mem_singleton.2 rfl)
 ·rw [bD hk,cj];refine plainV_mk hk fun u hu=>?_;obtain⟨v,hv,rfl⟩:=List.mem_map.1 hu;obtain⟨j,hj⟩:=List.getElem?_of_mem hv;exact ih j v hj fun i hi=>h i (by rw [bV,if_neg hk];exact dl hv hi)
theorem can_plain {n: Nat} {B: List Tm} (hG: Gst n B) (hA: Acyc B) {σ: Int→Tm} (hc: Can B σ) (v: Int): plainV (σ v)=true:=by
 obtain⟨rk,hr⟩:=hA;have key: ∀(k: Nat) (v: Int),rk v.toNat < k→plainV (σ v)=true:=by
  intro k
  induction k with
  | zero=>intro v h;omega
  | succ k ih =>
   intro v hk
   by_cases hv: v < 0∨¬ bound B v.toNat
   ·rw [hc.2 v hv];rfl
   ·have hv': ¬ v < 0∧bound B v.toNat:=by
     rw [not_or,Classical.not_not] at hv;exact hv
    obtain⟨h0,u,hu,hb⟩:=hv';have h1:=hc.1 _ _ hu hb;rw [show ((v.toNat: Nat): Int)=v by omega] at h1;rw [h1];exact app_plain u fun j hj=>ih j (by have:=hr _ _ hu hb j hj;omega)
 exact key _ v (Nat.lt_succ_self _)
theorem nodesR_plain: ∀ t: Tm,nodesR t=true→plainV t=true:=by
 refine Tm.ind fun t ih h=>?_;rw [bC,Bool.and_eq_true,bF] at h
 by_cases hk: t.kind=1
 ·obtain⟨_,_,h3,h4⟩:=bW h.1 hk
  cases t with
  | mk k n s l =>
   obtain rfl: k=1:=hk;obtain rfl: s=⟨#[]⟩:=h3;obtain rfl: l= []:=h4;rfl
 ·cases t with
  | mk k n s l =>
   refine plainV_mk hk fun u hu=>?_;obtain⟨j,hj⟩:=List.getElem?_of_mem hu;exact ih j u hj (List.all_eq_true.1 h.2 u hu)
theorem nodeR_alike {k n: Int} {s: ByteArray} {l l': List Tm} (h: l.length=l'.length): nodeR (.mk k n s l)=nodeR (.mk k n s l'):=by
 have h2:(((Tm.mk k n s l).l.length: Nat): Int)=(((Tm.mk k n s l').l.length: Nat): Int):=congrArg _ h;unfold nodeR;rw [h2];rfl
theorem depL_le_of {m: Nat}: ∀ {ts: List Tm},(∀ t ∈ ts,dep t≤m)→depL ts≤m
 | [],_=>by rw [depL];omega
 | t::ts,h=>by
  rw [depL];have h1:=h t List.mem_cons_self;have h2:=depL_le_of (ts:=ts) fun u hu=>h u (List.mem_cons_of_mem _ hu);omega
structure WV (n: Nat) (B: List Tm) (σ: Int→Tm) (t x: Tm): Prop where
 e: x=app σ t
 r: nodesR x=true
 o: overR (n: Int) x=true
 f: ∀ j ∈ occ x,opn B j=true
section
variable {n: Nat} {B: List Tm} {σ: Int→Tm}
theorem whA_spec {g: Tm→Int→Option Tm × Int} {deep: Int} (hg: ∀ t left x l,okT n t=true→0≤left→g t left=(some x,l)→WV n B σ t x∧l=left - x.sz∧0≤l∧(dep x: Int)+deep≤601) :
  ∀(ts acc: List Tm) (left: Int) (us: List Tm) (l: Int),(∀ t ∈ ts,okT n t=true)→0≤left→whA g acc ts left=(some us,l)→
  us=acc++ts.map (app σ)∧(∀ x ∈ ts.map (app σ),nodesR x=true∧overR (n: Int) x=true∧(∀ j ∈ occ x,opn B j=true)∧(dep x: Int)+deep≤601)∧l=left - Tm.szL (ts.map (app σ))∧0≤l
 | [],acc,left,us,l,_,h0,h=>by
  rw [whA] at h
  cases h
  exact⟨by simp,fun x hx=>(by cases hx),by simp [Tm.szL],h0⟩
 | t::ts,acc,left,us,l,hok,h0,h=>by
  rw [whA] at h
  cases hh: g t left with
  | mk o l1=>cases o with
   | none=>rw [hh] at h;cases h
   | some x =>
    rw [hh] at h;obtain⟨hw,h1,h2,h3⟩:=hg t left x l1 (hok t List.mem_cons_self) h0 hh;obtain⟨r1,r2,r3,r4⟩:=whA_spec hg ts (acc++ [x]) l1 us l (fun u hu=>hok u (List.mem_cons_of_mem _ hu)) h2 h;have he:=hw.e;subst he;refine⟨by rw [r1,List.map_cons,List.append_assoc];rfl,fun y hy=>?_,?_,r4⟩
    ·rw [List.map_cons] at hy
     rcases List.mem_cons.1 hy with rfl | hy
     ·exact⟨hw.r,hw.o,hw.f,h3⟩
     ·exact r2 y hy
    ·rw [List.map_cons,Tm.szL];omega
theorem whl_spec (hG: Gst n B) (hc: Can B σ): ∀(f: Nat) (t: Tm) (left deep: Int) (x: Tm) (l: Int),okT n t=true→0≤left→whl B f t left deep=(some x,l)→WV n B σ t x∧l=left - x.sz∧0≤l∧(dep x: Int)+deep≤601:=by
 intro f
 induction f with
 | zero=>intro t left deep x l _ _ h;rw [whl] at h;cases h
 | succ f ih =>
  intro t left deep x l hok h0 h;rw [whl] at h
  split at h
  ·cases h
  ·rename_i hcd
   have hcd:(decide (left - 1 < 0)||decide (600 < deep))=false:=by simpa using hcd
   rw [Bool.or_eq_false_iff,decide_eq_false_iff_not,decide_eq_false_iff_not] at hcd;obtain⟨hu,huo⟩:=bp hG hok;have he: app σ (follow B t)=app σ t:=hc.1.step hG hok;obtain⟨u,hue⟩: ∃ u,u=follow B t:=⟨_,rfl⟩;rw [← hue] at h hu huo he
   cases hh: whA (fun x l=>whl B f x l (deep+1)) [] u.l (left - 1) with
   | mk o l1=>cases o with
    | none=>rw [hh] at h;cases h
    | some vs =>
     rw [hh] at h;simp only [Prod.mk.injEq,Option.some.injEq] at h;obtain⟨h1,rfl⟩:=h;obtain⟨r1,r2,r3,r4⟩:=whA_spec (n:=n) (B:=B) (σ:=σ) (deep:=deep+1) (fun t left x l a b c=>ih t left (deep+1) x l a b c) u.l [] (left - 1) vs l1 (fun w hw=>dM hu hw) (by omega) hh;rw [List.nil_append] at r1;have hex: x=app σ t:=by
      rw [← he,← h1]
      by_cases hk: u.kind=1
      ·have hl:=(bW (cE (cl hu)) hk).2.2.2;rw [a8 hk,hc.opn (huo hk),r1,hl,hk,(bW (cE (cl hu)) hk).2.2.1];rfl
      ·rw [bD hk,cj,r1]
     have hl: vs.length=u.l.length:=by rw [r1,List.length_map]
     have hd: depL vs+1+deep≤601:=by
      by_cases hv: vs= []
      ·rw [hv,depL];omega
      ·have h2: depL vs≤(600 - deep).toNat:=depL_le_of fun y hy=>by
        rw [r1] at hy;have:=(r2 y hy).2.2.2;omega
       omega
     refine⟨⟨hex,?_,?_,?_⟩,?_,r4,?_⟩
     ·rw [← h1,bC,Bool.and_eq_true,bF];refine⟨?_,List.all_eq_true.2 fun y hy=>(r2 y (by rw [← r1];exact hy)).1⟩;rw [nodeR_alike hl];have:=cE (cl hu)
      cases u;exact this
     ·rw [← h1,bS,Bool.and_eq_true,bM];refine⟨?_,List.all_eq_true.2 fun y hy=>(r2 y (by rw [← r1];exact hy)).2.1⟩;have:=cP hu;rw [bS,Bool.and_eq_true] at this;exact this.1
     ·intro j hj;rw [← h1,bV] at hj
      split at hj
      ·rename_i hk
       rw [List.mem_singleton.1 hj];exact huo hk
      ·obtain⟨y,hy,hjy⟩:=du hj;exact(r2 y (by rw [← r1];exact hy)).2.2.1 j hjy
     ·rw [← h1,Tm.sz_eq,r3,← r1]
      show left - 1 - (Tm.szL vs: Int)=left - ((1+Tm.szL vs: Nat): Int)
      omega
     ·rw [← h1,ek]
      show ((depL vs+1: Nat): Int)+deep≤601
      omega
theorem whA_ok {g: Tm→Int→Option Tm × Int} {deep: Int} (hg: ∀ t left x l,okT n t=true→0≤left→g t left=(some x,l)→WV n B σ t x∧l=left - x.sz∧0≤l∧(dep x: Int)+deep≤601)
  (hk: ∀ t left,okT n t=true→((app σ t).sz: Int)≤left→(dep (app σ t): Int)+deep≤601→(g t left).1.isSome=true) :
  ∀(ts acc: List Tm) (left: Int),(∀ t ∈ ts,okT n t=true)→(Tm.szL (ts.map (app σ)): Int)≤left→(∀ t ∈ ts,(dep (app σ t): Int)+deep≤601)→(whA g acc ts left).1.isSome=true
 | [],acc,left,_,_,_=>by rw [whA];rfl
 | t::ts,acc,left,hok,hs,hd=>by
  rw [List.map_cons,Tm.szL] at hs;have h1:=hk t left (hok t List.mem_cons_self) (by omega) (hd t List.mem_cons_self);rw [whA]
  cases hh: g t left with
  | mk o l1=>cases o with
   | none=>rw [hh] at h1;cases h1
   | some x =>
    obtain⟨hw,h2,h3,_⟩:=hg t left x l1 (hok t List.mem_cons_self) (by omega) hh;have he:=hw.e;subst he;exact whA_ok hg hk ts _ l1 (fun u hu=>hok u (List.mem_cons_of_mem _ hu)) (by omega) fun u hu=>hd u (List.mem_cons_of_mem _ hu)
theorem whl_ok (hG: Gst n B) (hc: Can B σ): ∀(f: Nat) (t: Tm) (left deep: Int),(f: Int)+deep=602→okT n t=true→((app σ t).sz: Int)≤left→(dep (app σ t): Int)+deep≤601→(whl B f t left deep).1.isSome=true:=by
 intro f
 induction f with
 | zero =>
  intro t left deep hf _ _ hd;have:=ek (app σ t);omega
 | succ f ih =>
  intro t left deep hf hok hs hd;have h1:=ek (app σ t);have h2:=(app σ t).sz_eq;have hcd:(decide (left - 1 < 0)||decide (600 < deep))=false:=by
   rw [Bool.or_eq_false_iff,decide_eq_false_iff_not,decide_eq_false_iff_not];omega
  rw [whl,if_neg (by rw [hcd];simp)];obtain⟨hu,huo⟩:=bp hG hok;have he: app σ (follow B t)=app σ t:=hc.1.step hG hok;obtain⟨u,hue⟩: ∃ u,u=follow B t:=⟨_,rfl⟩;rw [← hue] at hu huo he ⊢;have hsome:(whA (fun x l=>whl B f x l (deep+1)) [] u.l (left - 1)).1.isSome=true:=by
   by_cases hk: u.kind=1
   ·rw [(bW (cE (cl hu)) hk).2.2.2,whA];rfl
   ·rw [← he,bD hk] at h1 h2 hs hd;rw [cj] at h1 h2 hs hd;have h1: dep (Tm.mk u.kind u.n u.s (u.l.map (app σ)))=depL (u.l.map (app σ))+1:=h1;have h2:(Tm.mk u.kind u.n u.s (u.l.map (app σ))).sz=1+Tm.szL (u.l.map (app σ)):=h2;refine whA_ok (n:=n) (B:=B) (σ:=σ) (deep:=deep+1) (fun t left x l a b c=>whl_spec hG hc f t left (deep+1) x l a b c) (fun t left a b c=>ih t left (deep+1) (by omega) a b c) u.l [] (left - 1) (fun w hw=>dM hu hw) (by omega) fun w hw=>?_;have:=eQ (List.mem_map.2 ⟨w,hw,rfl⟩: app σ w ∈ u.l.map (app σ));omega
  cases hh: whA (fun x l=>whl B f x l (deep+1)) [] u.l (left - 1) with
  | mk o l1=>cases o with
   | none=>rw [hh] at hsome;cases hsome
   | some vs=>rfl
end
section
variable {B: List Tm} {σ: Int→Tm} {t u: Tm}
theorem whole_err (h: isB B=true) (ht: okT B.length t=true):(wholeU B t).2=0∨(wholeU B t).2=2:=by
 unfold wholeU;rw [if_pos (gve1 h ht)]
 split
 ·exact .inl rfl
 ·exact .inr rfl
theorem da (h: isB B=true) (hc: Can B σ) (ht: okT B.length t=true) (he:(wholeU B t).2=0):(wholeU B t).1=app σ t∧okT B.length (app σ t)=true∧∀ j ∈ occ (app σ t),opn B j=true:=by
 have hG:=(bk.1 h).1;unfold wholeU at he ⊢;rw [if_pos (gve1 h ht)] at he ⊢
 cases hh: whl B 601 t 4000 1 with
 | mk o l=>cases o with
  | none=>rw [hh] at he;cases he
  | some x =>
   obtain⟨hw,h1,h2,h3⟩:=whl_spec hG hc 601 t 4000 1 x l ht (by omega) hh;have e:=hw.e;subst e;exact⟨rfl,fm (fI (by omega) (by omega) hw.r) hw.o,hw.f⟩
theorem whole_mk (h: isB B=true) (hc: Can B σ) (ht: okT B.length t=true) (hs:(app σ t).sz≤4000) (hd: dep (app σ t)≤600): wholeU B t=(app σ t,0):=by
 have hG:=(bk.1 h).1;have hk:=whl_ok hG hc 601 t 4000 1 (by omega) ht (by omega) (by omega);have h1:(wholeU B t).2=0:=by
  unfold wholeU;rw [if_pos (gve1 h ht),if_pos hk]
 exact Prod.ext (da h hc ht h1).1 h1
theorem can_id (hc: Can B σ) (hx: okT B.length u=true) (hf: ∀ j ∈ occ u,opn B j=true): app σ u=u:=
 app_id u (nodesR_plain u (bH (cl hx)).2.2) fun j hj=>hc.opn (hf j hj)
theorem whole_again (h: isB B=true) (ht: okT B.length t=true) (he:(wholeU B t).2=0): wholeU B (wholeU B t).1=((wholeU B t).1,0):=by
 obtain⟨σ,hc⟩:=dw h;obtain⟨h1,h2,h3⟩:=da h hc ht he;have h4:=can_id hc h2 h3;have h5:=bH (cl h2);rw [h1];have:=whole_mk h hc h2 (by rw [h4];exact h5.1) (by rw [h4];exact h5.2.1);rw [h4] at this;exact this
theorem whole_chk (h: isB B=true) (ht: okT B.length t=true) (he:(wholeU B t).2=0): okT B.length (wholeU B t).1=true:=by
 obtain⟨σ,hc⟩:=dw h;obtain⟨h1,h2,h3⟩:=da h hc ht he;rw [h1];exact h2
theorem free_0 (h: isB B=true) (ht: okT B.length t=true):(freeU B t).2=0:=by
 unfold freeU;rw [if_pos (gve1 h ht)]
theorem whole_same (h: isB B=true) (ht: okT B.length t=true) (hu: okT B.length u=true) (he:(wholeU B t).2=0) (hf:(wholeU B u).2=0) (hs:(sameU B t u).2=0):(sameU B t u).1=eqT (wholeU B t).1 (wholeU B u).1:=by
 obtain⟨σ,hc⟩:=dw h;obtain⟨hG,hA⟩:=bk.1 h;rw [(da h hc ht he).1,(da h hc hu hf).1];have h1:=sameU_iff h ht hu hs
 by_cases e: app σ t=app σ u
 ·rw [e,(b0 _ _).2 rfl];refine h1.2 fun τ hτ=>?_;rw [← absorb hG hA hc hτ (ff ht),e,absorb hG hA hc hτ (ff hu)]
 ·have h2:(sameU B t u).1=false:=by
   rw [Bool.eq_false_iff];exact fun h3=>e (h1.1 h3 σ hc.1)
  rw [h2,Eq.comm,Bool.eq_false_iff];exact fun h3=>e ((b0 _ _).1 h3)
theorem can_le {n: Nat} (hG: Gst n B) (hc: Can B σ): ∀(k: Nat) (v w: Int),v.toNat < k→σ v=vr w→w≤v:=by
 intro k
 induction k with
 | zero=>intro v w h;omega
 | succ k ih =>
  intro v w hk hv
  by_cases hb: v < 0∨¬ bound B v.toNat
  ·rw [hc.2 v hb] at hv;rw [vr_inj hv];exact Int.le_refl _
  ·have hb': ¬ v < 0∧bound B v.toNat:=by
    rw [not_or,Classical.not_not] at hb;exact hb
   obtain⟨h0,u,hu,hbk⟩:=hb';have h1:=hc.1 _ _ hu hbk;rw [show ((v.toNat: Nat): Int)=v by omega,hv] at h1
   by_cases hk1: u.kind=1
   ·rw [a8 hk1] at h1;have h2:=hG.dec _ _ hu hk1;have:=ih u.n w (by omega) h1.symm;omega
   ·rw [bD hk1] at h1;injection h1 with h2
    exact absurd h2.symm hk1
theorem can_eqv {s r: List Tm} {τ: Int→Tm} (hs: isB s=true) (hr: isB r=true) (hl: r.length=s.length) (hc: Can s σ) (hd: Can r τ) (he: ∀ θ,Sol s θ↔Sol r θ) (ht: okT s.length t=true): app σ t=app τ t:=by
 obtain⟨hG,hA⟩:=bk.1 hs;obtain⟨hG2,hA2⟩:=bk.1 hr;refine agree hG hA hc.1 ((he τ).2 hd.1) (ff ht) fun v hv ho=>?_;rw [hc.opn ho]
 by_cases hb: v < 0∨¬ bound r v.toNat
 ·exact(hd.2 v hb).symm
 ·have hb': ¬ v < 0∧bound r v.toNat:=by
   rw [not_or,Classical.not_not] at hb;exact hb
  obtain⟨h0,z,hz,_⟩:=hb';have hlt: v.toNat < r.length:=(List.getElem?_eq_some_iff.1 hz).1;have h1:=absorb hG2 hA2 hd ((he σ).1 hc.1) (t:=vr v) (fun j hj=>by rw [bR] at hj;rw [List.mem_singleton.1 hj];omega);rw [fO,fO,hc.opn ho] at h1;have hk:(τ v).kind=1:=Classical.byContradiction fun hk=>by
   rw [bD hk] at h1;injection h1 with h2
   exact hk h2
  have h3:=plainV_var (can_plain hG2 hA2 hd v) hk;rw [a8 hk] at h1;have h4:=can_le hG2 hd _ v _ (Nat.lt_succ_self _) h3;have h5:=can_le hG hc _ _ v (Nat.lt_succ_self _) h1;rw [h3,show (τ v).n=v by omega]
theorem eb {s r: List Tm} (hs: isB s=true) (hr: isB r=true) (hl: r.length=s.length) (h1:(impD s r).2=true) (h2:(impD r s).2=true) (h3:(impD s r).1=true) (h4:(impD r s).1=true) (ht: okT s.length t=true) (he:(wholeU s t).2=0): wholeU r t=((wholeU s t).1,0):=by
 obtain⟨σ,hc⟩:=dw hs;obtain⟨τ,hd⟩:=dw hr;have e:=can_eqv hs hr hl hc hd (fun θ=>⟨(impD_iff hs hr h1).1 h3 θ,(impD_iff hr hs h2).1 h4 θ⟩) ht;obtain⟨a1,a2,a3⟩:=da hs hc ht he;have a4:=bH (cl a2);rw [a1,e];rw [e] at a4;exact whole_mk hr hd (by rw [hl];exact ht) a4.1 a4.2.1
theorem nds_occ: ∀(t: Tm),plainV t=true→∀ x ∈ nds t,x.kind=1→x.n ∈ occ t:=by
 refine Tm.ind fun t ih hp x hx hk=>?_;rw [eU] at hx
 by_cases hk1: t.kind=1
 ·have e:=plainV_var hp hk1;rw [e] at hx ⊢
  rcases List.mem_cons.1 hx with rfl | hx
  ·rw [bR];exact List.mem_singleton.2 rfl
  ·cases hx
 ·rcases List.mem_cons.1 hx with rfl | hx
  ·exact absurd hk hk1
  ·rw [bV,if_neg hk1];have key: ∀ ts: List Tm,(∀ u ∈ ts,u ∈ t.l)→x ∈ ndsL ts→x.n ∈ occL ts:=by
    intro ts
    induction ts with
    | nil=>intro _ h;cases h
    | cons u us ihu =>
     intro hs h;rw [ndsL] at h
     rcases List.mem_append.1 h with h | h
     ·have hu:=hs u List.mem_cons_self;obtain⟨j,hj⟩:=List.getElem?_of_mem hu;have hpu: plainV u=true:=by
       cases t with
       | mk k n s l =>
        rw [plainV,if_neg (show ¬ k=1 from hk1),dq] at hp;exact List.all_eq_true.1 hp u hu
      exact dl List.mem_cons_self (ih j u hj hpu x h hk)
     ·obtain⟨v,hv,hvn⟩:=du (ihu (fun w hw=>hs w (List.mem_cons_of_mem _ hw)) h);exact dl (List.mem_cons_of_mem _ hv) hvn
   exact key t.l (fun u hu=>hu) hx
theorem contains_rev {out: List Int} {q: Int}: out.reverse.contains q=true↔q ∈ out:=by simp
theorem fold_known: ∀(ns: List Tm) (out: List Int),(∀ x ∈ ns,x.kind=1→x.n ∈ out)→ns.foldl newV out=out
 | [],out,_=>rfl
 | x::ns,out,h=>by
  have e: newV out x=out:=by
   by_cases hk: x.kind=1
   ·exact newV_old (contains_rev.2 (h x List.mem_cons_self hk))
   ·exact eg hk
  rw [List.foldl_cons,e];exact fold_known ns out fun y hy=>h y (List.mem_cons_of_mem _ hy)
theorem reach_rank {rk: Nat→Nat} (hr: Ranked B rk) {w: Int} (h: Reach B t w): ∃ j ∈ occ t,rk w.toNat≤rk j.toNat:=by
 induction h with
 | occ h=>exact ⟨_,h,Nat.le_refl _⟩
 | step h hu hb _ ih =>
  obtain⟨i,hi,hle⟩:=ih;have:=hr _ _ hu hb i hi;exact⟨_,h,by omega⟩
theorem ndsL_map_cons (σ: Int→Tm) (t: Tm) (ts: List Tm): ndsL ((t::ts).map (app σ))=nds (app σ t)++ndsL (ts.map (app σ)):=by rw [List.map_cons,ndsL]
theorem vfree_fold {n: Nat} (hG: Gst n B) (hA: Acyc B) (hc: Can B σ): ∀(f: Nat) (todo: List Tm) (seen out: List Int),AllV B.length todo→vmeas B todo seen < f→(∀ j ∈ out,j ∈ seen)→
  (∀ v ∈ seen,∃ k,(∀ t ∈ todo.take k,¬ Reach B t v)∧∀ j ∈ occ (σ v),j ∈ out∨∃ t ∈ todo.take k,j ∈ occ (app σ t))→
  (vfree B (fun _=>false) f todo seen out).2=(ndsL (todo.map (app σ))).foldl newV out:=by
 have hpl: ∀ v,plainV (σ v)=true:=can_plain hG hA hc;have hpa: ∀ t,plainV (app σ t)=true:=fun t=>app_plain t fun j _=>hpl j;intro f
 induction f with
 | zero=>intro todo seen out _ h;omega
 | succ f ih =>
  intro todo seen out hv hm ho hC
  cases todo with
  | nil=>rfl
  | cons t ts =>
   rw [ndsL_map_cons,List.foldl_append,vfree]
   split
   ·rename_i hk
    have hr:=bN (hv t List.mem_cons_self) hk;have hoc: occ t= [t.n]:=by rw [bV,if_pos hk]
    rw [a8 hk]
    split
    ·rename_i hs
     have hs': t.n ∈ seen:=by simpa using hs
     have hout: ∀ j ∈ occ (σ t.n),j ∈ out:=by
      obtain⟨k,h1,h2⟩:=hC _ hs'
      cases k with
      | zero =>
       intro j hj
       rcases h2 j hj with h |⟨u,hu,_⟩
       ·exact h
       ·cases hu
      | succ k=>exact absurd (Reach.occ (by rw [hoc];exact List.mem_singleton.2 rfl)) (h1 t (by rw [List.take_succ_cons];exact List.mem_cons_self))
     rw [fold_known (nds (σ t.n)) out fun x hx hk=>hout _ (nds_occ _ (hpl _) x hx hk)];have:=cG B t ts seen;refine ih _ _ _ hv.tail (by omega) ho fun v hvs=>?_;obtain⟨k,h1,h2⟩:=hC v hvs
     cases k with
     | zero=>exact ⟨0,fun u hu=>(by cases hu),fun j hj=>by
       rcases h2 j hj with h |⟨u,hu,_⟩
       ·exact .inl h
       ·cases hu⟩
     | succ k =>
      rw [List.take_succ_cons] at h1 h2;refine⟨k,fun u hu=>h1 u (List.mem_cons_of_mem _ hu),fun j hj=>?_⟩
      rcases h2 j hj with h |⟨u,hu,hju⟩
      ·exact .inl h
      ·rcases List.mem_cons.1 hu with rfl | hu
       ·rw [a8 hk] at hju;exact .inl (hout j hju)
       ·exact .inr ⟨u,hu,hju⟩
    ·rename_i hs
     have hs': ¬ t.n ∈ seen:=by simpa using hs
     split
     ·rename_i hop
      rw [if_neg (by simp)];have e1: σ t.n=vr t.n:=hc.opn hop;have e2:(nds (σ t.n)).foldl newV out=out++ [t.n]:=by
       rw [e1]
       show newV out (vr t.n)=_
       exact newV_yes rfl (by rw [Bool.eq_false_iff];exact fun h=>hs' (ho _ (contains_rev.1 h)))
      rw [e2];have:=cH (B:=B) (t:=t) (ts:=ts) (seen:=seen);refine ih _ _ _ hv.tail (by omega) (fun j hj=>?_) fun v hvs=>?_
      ·rcases List.mem_append.1 hj with hj | hj
       ·exact List.mem_cons_of_mem _ (ho j hj)
       ·rw [List.mem_singleton.1 hj];exact List.mem_cons_self
      ·rcases List.mem_cons.1 hvs with rfl | hvs
       ·refine⟨0,fun u hu=>(by cases hu),fun j hj=>.inl ?_⟩;rw [e1,bR] at hj;exact List.mem_append_right _ hj
       ·obtain⟨k,h1,h2⟩:=hC v hvs
        cases k with
        | zero=>exact ⟨0,fun u hu=>(by cases hu),fun j hj=>by
          rcases h2 j hj with h |⟨u,hu,_⟩
          ·exact .inl (List.mem_append_left _ h)
          ·cases hu⟩
        | succ k =>
         rw [List.take_succ_cons] at h1 h2;refine⟨k,fun u hu=>h1 u (List.mem_cons_of_mem _ hu),fun j hj=>?_⟩
         rcases h2 j hj with h |⟨u,hu,hju⟩
         ·exact .inl (List.mem_append_left _ h)
         ·rcases List.mem_cons.1 hu with rfl | hu
          ·rw [a8 hk,e1,bR] at hju;exact .inl (List.mem_append_right _ hju)
          ·exact .inr ⟨u,hu,hju⟩
     ·rename_i hop
      have hop: opn B t.n=false:=by simpa using hop
      have hbd:(B.getD t.n.toNat default).kind≠0:=by
       unfold opn at hop;exact of_decide_eq_false hop
      have hg:=bj hbd;have e1: app σ (B.getD t.n.toNat default)=σ t.n:=by
       have:=hc.1 _ _ hg hbd;rw [show ((t.n.toNat: Nat): Int)=t.n by omega] at this;exact this.symm
      have:=cD (B:=B) (t:=t) (ts:=ts) (seen:=seen) hr (by simpa using hs);rw [ih (B.getD t.n.toNat default::ts) (t.n::seen) out (AllV.bind hG.allV hv hk) (by omega) (fun j hj=>List.mem_cons_of_mem _ (ho j hj)) fun v hvs=>?_,ndsL_map_cons,List.foldl_append,e1]
      rcases List.mem_cons.1 hvs with rfl | hvs
      ·refine⟨1,fun u hu hru=>?_,fun j hj=>.inr ⟨_,List.mem_cons_self,by rw [e1];exact hj⟩⟩;rw [List.take_succ_cons,List.take_zero] at hu;rw [List.mem_singleton.1 hu] at hru;obtain⟨rk,hrk⟩:=hA;obtain⟨j,hj,hle⟩:=reach_rank hrk hru;have:=hrk _ _ hg hbd j hj;omega
      ·obtain⟨k,h1,h2⟩:=hC v hvs
       cases k with
       | zero=>exact ⟨0,fun u hu=>(by cases hu),fun j hj=>by
         rcases h2 j hj with h |⟨u,hu,_⟩
         ·exact .inl h
         ·cases hu⟩
       | succ k =>
        rw [List.take_succ_cons] at h1 h2;refine⟨k+1,fun u hu=>?_,fun j hj=>?_⟩
        ·rw [List.take_succ_cons] at hu
         rcases List.mem_cons.1 hu with rfl | hu
         ·exact fun hru=>h1 t List.mem_cons_self (.step (by rw [hoc];exact List.mem_singleton.2 rfl) hg hbd hru)
         ·exact h1 u (List.mem_cons_of_mem _ hu)
        ·rw [List.take_succ_cons]
         rcases h2 j hj with h |⟨u,hu,hju⟩
         ·exact .inl h
         ·rcases List.mem_cons.1 hu with rfl | hu
          ·rw [a8 hk] at hju;exact .inr ⟨_,List.mem_cons_self,by rw [e1];exact hju⟩
          ·exact .inr ⟨u,List.mem_cons_of_mem _ hu,hju⟩
   ·rename_i hk
    have e1: nds (app σ t)=app σ t::ndsL (t.l.map (app σ)):=by rw [eU,bD hk,cj];rfl
    rw [e1,List.foldl_cons,eg (by rw [bD hk];exact hk)];have:=cS B t ts seen;rw [ih (t.l++ts) seen out hv.sub (by omega) ho fun v hvs=>?_,List.map_append,cJ,List.foldl_append];obtain⟨k,h1,h2⟩:=hC v hvs
    cases k with
    | zero=>exact ⟨0,fun u hu=>(by cases hu),fun j hj=>by
      rcases h2 j hj with h |⟨u,hu,_⟩
      ·exact .inl h
      ·cases hu⟩
    | succ k =>
     rw [List.take_succ_cons] at h1 h2;refine⟨t.l.length+k,fun u hu=>?_,fun j hj=>?_⟩
     ·rw [List.take_append,Nat.add_sub_cancel_left,List.take_of_length_le (by omega)] at hu
      rcases List.mem_append.1 hu with hu | hu
      ·exact fun hru=>h1 t List.mem_cons_self (hru.sub hk hu)
      ·exact h1 u (List.mem_cons_of_mem _ hu)
     ·rw [List.take_append,Nat.add_sub_cancel_left,List.take_of_length_le (by omega)]
      rcases h2 j hj with h |⟨u,hu,hju⟩
      ·exact .inl h
      ·rcases List.mem_cons.1 hu with rfl | hu
       ·have hju: j ∈ occL (u.l.map (app σ)):=by
         rw [bD hk,bV,if_neg (show ¬(Tm.mk u.kind u.n u.s (appL σ u.l)).kind=1 from hk)] at hju;rw [← cj];exact hju
        obtain⟨y,hy,hjy⟩:=du hju;obtain⟨z,hz,rfl⟩:=List.mem_map.1 hy;exact .inr ⟨z,List.mem_append_left _ hz,hjy⟩
       ·exact .inr ⟨u,List.mem_append_right _ hu,hju⟩
theorem whole_vars (h: isB B=true) (ht: okT B.length t=true) (he:(wholeU B t).2=0): varsN [(wholeU B t).1]=(freeU B t).1:=by
 obtain⟨σ,hc⟩:=dw h;obtain⟨hG,hA⟩:=bk.1 h;have hv: AllV B.length [t]:=fun u hu=>by rw [List.mem_singleton.1 hu];exact cP ht
 have h2:=vfree_fold hG hA hc (vmeas B [t] []+1) [t] [] [] hv (Nat.lt_succ_self _) (fun j hj=>(by cases hj)) (fun v hv=>(by cases hv));rw [(da h hc ht he).1];unfold freeU;rw [if_pos (gve1 h ht)];exact h2.symm
theorem whole_nds (h: isB B=true) (ht: okT B.length t=true) (he:(wholeU B t).2=0): ∀ x ∈ ndsL [(wholeU B t).1],x.kind=1→0≤x.n∧x.n < 1000000:=by
 intro x hx hk;rw [ndsL,ndsL,List.append_nil] at hx;have h1:=whole_chk h ht he;have h2:=nds_occ _ (nodesR_plain _ (bH (cl h1)).2.2) x hx hk;have h3:=fr h1 _ h2;have h4:=(bk.1 h).1.le;omega
end
end Go.Vk
namespace Go.Vk
theorem vfree_len {B: List Tm} {stop: Int→Bool}: ∀(f: Nat) (todo: List Tm) (seen out: List Int),(vfree B stop f todo seen out).2.length≤out.length+f:=by
 intro f
 induction f with
 | zero=>intro todo seen out;exact Nat.le_refl _
 | succ f ih =>
  intro todo seen out
  cases todo with
  | nil=>exact Nat.le_add_right _ _
  | cons t ts =>
   simp only [vfree]
   repeat' split
   all_goals first
    |(have h:=ih ts seen out;omega)
    |(simp only [List.length_append,List.length_cons,List.length_nil];omega)
    |(have h:=ih ts (t.n::seen) (out++ [t.n]);simp only [List.length_append,List.length_cons,List.length_nil] at h;omega)
    |(have h:=ih (B.getD t.n.toNat default::ts) (t.n::seen) out;omega)
    |(have h:=ih (t.l++ts) seen out;omega)
theorem freeU_len8 {C: List Tm} {b: Tm}:(freeU C b).1.length * 8≤140737488355328:=by
 unfold freeU
 split
 ·rename_i h
  have hG:=eK h;have h1:=cM (bT h (List.mem_singleton.2 rfl));have h2:=hG.szL;have h3:=hG.le;have h4:=vfree_len (B:=C) (stop:=fun _=>false) (vmeas C [b] []+1) [b] [] [];have h5: vmeas C [b] []=Tm.szL [b]+Tm.szL C:=by unfold vmeas;rw [dk]
  rw [h5] at h4;simp only [Tm.szL,List.length_nil] at h4
  show (VF C (fun _=>false) [b] [] []).2.length * 8≤_
  unfold VF;rw [h5];simp only [Tm.szL];omega
 ·simp
end Go.Vk
namespace Go.Vk.Try
open Go.RowKit
theorem c_tVars {w0: World} {H: PHeap} (hI: Inv w0 H []) {A: Option Addr} {c: Nat} {ts: List Tm} (hr: RowT H A c ts) (hok: chkAll 4000 ts=true) (hz: Tm.szL ts≤1000000) (hvb: ∀ x ∈ ndsL ts,x.kind=1→0≤x.n∧x.n < 1000000): Calls prog 42 #[(.slice A ts.length c)] w0 (fun e w'=> ∃ H' A c en,e=.returned (.tuple #[.slice A (varsN ts).length c,.int .i64 0])∧Row (.slice A (varsN ts).length c) en 3 1 (varsN ts).length (ints (varsN ts))∧Step w0 H [] w' H' [en]):=by
 have hS:=Step.refl hI;have hlr:=hr.len;refine enter [(.slice A ts.length c)] func42 Y ntmps42 Y fun a ha=>?_;refine wp_seq (ab (Ls Y ha fun a ha=>?_));refine Ls Y ha fun a ha=>?_;refine wpList_nil (aa (wp_seq (wp_seq (ab (Lm Y ha fun a ha=>?_)))));have hk1:=c_CheckAll hS.inv.nil hr;rw [if_pos hok] at hk1;refine lin Y (Cs func76 ha Y (hk1) hS fun a w ha hS=>?_);refine Ls Y ha fun a ha=>?_;refine wpList_nil (aa (wp_seq (ab (Lm Y ha fun a ha=>?_))));refine lin Y (a7 (i:=0) (j:=0) ha Y Y Y fun a ha=>?_);refine wpList_nil (aa (an ha Y (wp_skip (aa (wp_seq (ab (Lm Y ha fun a ha=>?_)))))));have hk3:=c_tvars hS.inv.nil hr hz hvb;refine lin Y (Co func77 ha Y (hk3) ?_);rintro e w ⟨H2,A2,c2,en2,rfl,hR2,hc2⟩;refine⟨_,rfl,fun a ha=>?_⟩;have hS:=Step.frame (Lc:= []) hS hc2;refine Ls Y ha fun a ha=>?_;refine Ls Y ha fun a ha=>?_;refine wpList_nil (aa (wp_ret (ret2 Y ha Y Y ?_)));exact⟨_,_,_,_,rfl,hR2,hS⟩
set_option maxHeartbeats 4000000 in
theorem c_UnifyWholes {w0: World} {H: PHeap} (hI: Inv w0 H []) {As Ar At Au: Option Addr} {cs cr ct cu: Nat} {ss rr: List Tm} {t u: Tm} (hs: RowT H As cs ss) (hr: RowT H Ar cr rr) (ht: RowT H At ct t.l) (hu: RowT H Au cu u.l) (hls: ss.length≤2000000) (hlr: rr.length≤2000000): Calls prog 10 #[(.agg #[(.slice As ss.length cs)]),(.agg #[(.slice Ar rr.length cr)]),(tv t At ct),(tv u Au cu)] w0 (fun e w'=> ∃ H',e=.returned (.bool true)∧Step w0 H [] w' H' []):=by
 have hS:=Step.refl hI;refine enter [(.agg #[(.slice As ss.length cs)]),(.agg #[(.slice Ar rr.length cr)]),(tv t At ct),(tv u Au cu)] func10 Y ntmps10 Y fun a ha=>?_;refine wp_seq (ab (lin Y (aG (cs:= #[(.slice As ss.length cs)]) hS ha Y Y Y fun b1 a w hS ha=>?_)));refine lin Y (aG (cs:= #[(.slice Ar rr.length cr)]) hS ha Y Y Y fun b3 a w hS ha=>?_);refine lin Y (aG (cs:=(tA t At ct)) hS ha Y Y Y fun b5 a w hS ha=>?_);refine lin Y (aG (cs:=(tA u Au cu)) hS ha Y Y Y fun b7 a w hS ha=>?_);refine Ls Y ha fun a ha=>?_;refine wpList_nil (aa (wp_seq (wp_seq (ab ?_))));have hk9:=rsP (c_sane hS.inv.nil);refine lin Y (Cs func11 ha Y (hk9) hS fun a w ha hS=>?_);refine lin Y (aJ ha Y Y fun a ha=>?_);refine wpList_nil (aa (an ha Y (wp_skip (aa (wp_seq (wp_seq (ab (lin Y (ag (vs:= [(.slice As ss.length cs)]) T24 Y ha Y (hS.blkL 3 rfl) Y (ae Y) Y fun a ha=>?_)))))))));refine lin Y (ag (vs:=(tL t At ct)) T26 Y ha Y (hS.blkL 1 rfl) Y (ae Y) Y fun a ha=>?_);refine lin Y (ag (vs:=(tL u Au cu)) T26 Y ha Y (hS.blkL 0 rfl) Y (ae Y) Y fun a ha=>?_);refine lin Y (aD (vs:= [(0,(tv t At ct)),(1,(tv u Au cu))]) (cells:= [(iV t.kind),(iV t.n),(.string t.s),(.slice At t.l.length ct),(iV u.kind),(iV u.n),(.string u.s),(.slice Au u.l.length cu)]) T22.und T26 hS ha (ha.evp Y) Y Y Y Y fun b10 a w hS ha=>?_);obtain⟨H10,hS,hle10,hb10⟩:=hS.give;have hs:=hs.mono hle10;have hr:=hr.mono hle10;have ht:=ht.mono hle10;have hu:=hu.mono hle10;have hr10: RowT H10 (some ⟨b10,0,none⟩) 2 [t,u]:=RowT.of_lit ([⟨t,At,ct⟩,⟨u,Au,cu⟩]: List TV) hb10 (AllR.cons ht (AllR.cons hu (AllR.nil _))) (by simp) Y;have hk11:=c_small (us:= [t,u]) hS.inv.nil hs hr10 (by simp only [List.length_nil,List.length_cons];omega);refine lin Y (Cs func12 ha Y (hk11) hS fun a w ha hS=>?_);refine lin Y (aJ ha Y Y fun a ha=>?_);refine Lm Y ha fun a ha=>?_;refine ap (t:=31) ha Y (fun h12 ha=>?_) (fun h12 ha=>?_)
 ·refine Lf Y ha Y Y fun a ha=>?_;refine Lf Y ha Y Y fun a ha=>?_;refine Lf Y ha Y Y fun a ha=>?_;refine lin Y (aj ha Y Y Y fun a ha=>?_);refine Lm Y ha fun a ha=>?_;refine Lf Y ha Y Y fun a ha=>?_;refine Lf Y ha Y Y fun a ha=>?_;refine Lf Y ha Y Y fun a ha=>?_;refine lin Y (aj ha Y Y Y fun a ha=>?_);refine Lm Y ha fun a ha=>?_;refine Lf Y ha Y Y fun a ha=>?_;refine Lf Y ha Y Y fun a ha=>?_;refine Lf Y ha Y Y fun a ha=>?_;refine Lf Y ha Y Y fun a ha=>?_;refine Lf Y ha Y Y fun a ha=>?_;refine Lf Y ha Y Y fun a ha=>?_;refine lin Y (aj ha Y Y Y fun a ha=>?_);refine Lm Y ha fun a ha=>?_;refine Lf Y ha Y Y fun a ha=>?_;refine Lf Y ha Y Y fun a ha=>?_;refine Lf Y ha Y Y fun a ha=>?_;refine Lf Y ha Y Y fun a ha=>?_;refine Lf Y ha Y Y fun a ha=>?_;refine Lf Y ha Y Y fun a ha=>?_;refine lin Y (aj ha Y Y Y fun a ha=>?_);refine wpList_nil (aa (ar ha Y (wp_seq (ab (Ls Y ha fun a ha=>?_)))));refine wpList_nil (aa (wp_ret (ak (ret1 Y ha Y ?_))));exact⟨_,rfl,hS.drop_all⟩
 ·refine ad Y ha Y Y Y (ag (vs:= [(.slice Ar rr.length cr)]) T24 Y ha Y (hS.blkL 2 rfl) Y (ae Y) Y fun a ha=>?_);have hk13:=c_small (us:= []) hS.inv.nil hr (RowT.nil _) (by simp only [List.length_nil,List.length_cons];omega);refine ad Y ha Y Y Y (Co func12 ha Y (hk13) ?_);rintro e w ⟨rfl,hc⟩;refine⟨_,rfl,fun a ha=>?_⟩;have hS:=hS.call hc;refine ad Y ha Y Y Y (aJ ha Y Y fun a ha=>?_);refine lin Y (ah ha Y Y Y fun a ha=>?_);refine Lm Y ha fun a ha=>?_;refine ap (t:=36) ha Y (fun h14 ha=>?_) (fun h14 ha=>?_)
  ·refine Lf Y ha Y Y fun a ha=>?_;refine Lf Y ha Y Y fun a ha=>?_;refine Lf Y ha Y Y fun a ha=>?_;refine lin Y (aj ha Y Y Y fun a ha=>?_);refine Lm Y ha fun a ha=>?_;refine Lf Y ha Y Y fun a ha=>?_;refine Lf Y ha Y Y fun a ha=>?_;refine Lf Y ha Y Y fun a ha=>?_;refine Lf Y ha Y Y fun a ha=>?_;refine Lf Y ha Y Y fun a ha=>?_;refine Lf Y ha Y Y fun a ha=>?_;refine lin Y (aj ha Y Y Y fun a ha=>?_);refine Lm Y ha fun a ha=>?_;refine Lf Y ha Y Y fun a ha=>?_;refine Lf Y ha Y Y fun a ha=>?_;refine Lf Y ha Y Y fun a ha=>?_;refine Lf Y ha Y Y fun a ha=>?_;refine Lf Y ha Y Y fun a ha=>?_;refine Lf Y ha Y Y fun a ha=>?_;refine lin Y (aj ha Y Y Y fun a ha=>?_);refine wpList_nil (aa (ar ha Y (wp_seq (ab (Ls Y ha fun a ha=>?_)))));refine wpList_nil (aa (wp_ret (ak (ret1 Y ha Y ?_))));exact⟨_,rfl,hS.drop_all⟩
  ·refine ad Y ha Y Y Y (ag (vs:= [(.slice As ss.length cs)]) T24 Y ha Y (hS.blkL 3 rfl) Y (ae Y) Y fun a ha=>?_);have hk15:=c_Is hS.inv.nil hs (dP h12);refine ad Y ha Y Y Y (Co func13 ha Y (hk15) ?_);rintro e w ⟨rfl,hc⟩;refine⟨_,rfl,fun a ha=>?_⟩;have hS:=hS.call hc;refine ad Y ha Y Y Y (aJ ha Y Y fun a ha=>?_);refine lin Y (ah ha Y Y Y fun a ha=>?_);refine Lm Y ha fun a ha=>?_;refine ap (t:=41) ha Y (fun h16 ha=>?_) (fun h16 ha=>?_)
   ·refine Lf Y ha Y Y fun a ha=>?_;refine Lf Y ha Y Y fun a ha=>?_;refine Lf Y ha Y Y fun a ha=>?_;refine Lf Y ha Y Y fun a ha=>?_;refine Lf Y ha Y Y fun a ha=>?_;refine Lf Y ha Y Y fun a ha=>?_;refine lin Y (aj ha Y Y Y fun a ha=>?_);refine Lm Y ha fun a ha=>?_;refine Lf Y ha Y Y fun a ha=>?_;refine Lf Y ha Y Y fun a ha=>?_;refine Lf Y ha Y Y fun a ha=>?_;refine Lf Y ha Y Y fun a ha=>?_;refine Lf Y ha Y Y fun a ha=>?_;refine Lf Y ha Y Y fun a ha=>?_;refine lin Y (aj ha Y Y Y fun a ha=>?_);refine wpList_nil (aa (ar ha Y (wp_seq (ab (Ls Y ha fun a ha=>?_)))));refine wpList_nil (aa (wp_ret (ak (ret1 Y ha Y ?_))));exact⟨_,rfl,hS.drop_all⟩
   ·have hvss: isB ss=true:=by simpa using h16
    refine ad Y ha Y Y Y (ag (vs:=(tL t At ct)) T26 Y ha Y (hS.blkL 1 rfl) Y (ae Y) Y fun a ha=>?_);refine ad Y ha Y Y Y (ac (f:=0) (o2:=0) T24 T22 Y Y Y Y ha Y Y fun a ha=>?_);refine ad Y ha Y Y Y (af (v:=(.slice As ss.length cs)) T22 Y ha Y (hS.blkL 3 rfl) Y Y fun a ha=>?_);refine ad Y ha Y Y Y (aE T22.und ha Y Y fun a ha=>?_);have hk17:=eY (n:=((ss.length: Nat): Int)) hS.inv.nil ht (dV h12 (by simp)).1 (dV h12 (by simp)).2;refine ad Y ha Y Y Y (Co func14 ha Y (hk17) ?_);rintro e w ⟨rfl,hc⟩;refine⟨_,rfl,fun a ha=>?_⟩;have hS:=hS.call hc;refine ad Y ha Y Y Y (aJ ha Y Y fun a ha=>?_);refine lin Y (ah ha Y Y Y fun a ha=>?_);refine Lm Y ha fun a ha=>?_;refine ap (t:=49) ha Y (fun h18 ha=>?_) (fun h18 ha=>?_)
    ·refine Lf Y ha Y Y fun a ha=>?_;refine Lf Y ha Y Y fun a ha=>?_;refine Lf Y ha Y Y fun a ha=>?_;refine Lf Y ha Y Y fun a ha=>?_;refine Lf Y ha Y Y fun a ha=>?_;refine Lf Y ha Y Y fun a ha=>?_;refine lin Y (aj ha Y Y Y fun a ha=>?_);refine wpList_nil (aa (ar ha Y (wp_seq (ab (Ls Y ha fun a ha=>?_)))));refine wpList_nil (aa (wp_ret (ak (ret1 Y ha Y ?_))));exact⟨_,rfl,hS.drop_all⟩
    ·have hot: okT ss.length t=true:=by unfold okT;simpa using h18
     refine ad Y ha Y Y Y (ag (vs:=(tL u Au cu)) T26 Y ha Y (hS.blkL 0 rfl) Y (ae Y) Y fun a ha=>?_);refine ad Y ha Y Y Y (ac (f:=0) (o2:=0) T24 T22 Y Y Y Y ha Y Y fun a ha=>?_);refine ad Y ha Y Y Y (af (v:=(.slice As ss.length cs)) T22 Y ha Y (hS.blkL 3 rfl) Y Y fun a ha=>?_);refine ad Y ha Y Y Y (aE T22.und ha Y Y fun a ha=>?_);have hk19:=eY (n:=((ss.length: Nat): Int)) hS.inv.nil hu (dV h12 (by simp)).1 (dV h12 (by simp)).2;refine ad Y ha Y Y Y (Co func14 ha Y (hk19) ?_);rintro e w ⟨rfl,hc⟩;refine⟨_,rfl,fun a ha=>?_⟩;have hS:=hS.call hc;refine ad Y ha Y Y Y (aJ ha Y Y fun a ha=>?_);refine lin Y (ah ha Y Y Y fun a ha=>?_);refine wpList_nil (aa (ap (t:=56) ha Y (fun h20 ha=>?_) (fun h20 ha=>?_)))
     ·refine ar ha Y (wp_seq (ab (Ls Y ha fun a ha=>?_)));refine wpList_nil (aa (wp_ret (ak (ret1 Y ha Y ?_))));exact⟨_,rfl,hS.drop_all⟩
     ·have hou: okT ss.length u=true:=by unfold okT;simpa using h20
      refine an ha Y (wp_skip (aa (wp_seq (ab (lin Y (ag (vs:= [(.slice As ss.length cs)]) T24 Y ha Y (hS.blkL 3 rfl) Y (ae Y) Y fun a ha=>?_))))));refine lin Y (ag (vs:=(tL t At ct)) T26 Y ha Y (hS.blkL 1 rfl) Y (ae Y) Y fun a ha=>?_);have hk22:=dh hS.inv.nil hs ht;refine lin Y (Co func41 ha Y (hk22) ?_);rintro e w ⟨H21,A21,c21,rfl,hr21,hc21⟩;refine⟨_,rfl,fun a ha=>?_⟩;have hS:=hS.call hc21;have hs:=hs.mono hc21.le;have hr:=hr.mono hc21.le;have ht:=ht.mono hc21.le;have hu:=hu.mono hc21.le;refine Lm Y ha fun a ha=>?_;refine lin Y (ao (v:=(tv ((wholeU ss t).1) A21 c21)) ha Y Y Y fun a ha=>?_);refine lin Y (ao (v:=(iV ((wholeU ss t).2))) ha Y Y Y fun a ha=>?_);refine lin Y (aC (cs:=aZ) T26 hS ha Y Y fun b23 a w hS ha=>?_);refine lin Y (aw (cs':=(tA ((wholeU ss t).1) A21 c21)) T26 hS (i:=0) Y ha Y Y Y Y Y Y fun a w hS ha=>?_);refine Ls Y ha fun a ha=>?_;refine wpList_nil (aa (wp_seq (ab (lin Y (ag (vs:= [(.slice As ss.length cs)]) T24 Y ha Y (hS.blkL 4 rfl) Y (ae Y) Y fun a ha=>?_)))));refine lin Y (ag (vs:=(tL t At ct)) T26 Y ha Y (hS.blkL 2 rfl) Y (ae Y) Y fun a ha=>?_);have hk26:=c_Free hS.inv.nil hs ht;rw [free_0 hvss hot] at hk26;refine lin Y (Co func37 ha Y (hk26) ?_);rintro e w ⟨H25,A25,c25,en25,rfl,hR25,hc25⟩;refine⟨_,rfl,fun a ha=>?_⟩;have hS:=Step.frame (Lc:= []) hS hc25;have hs:=hs.mono hc25.le;have hr:=hr.mono hc25.le;have ht:=ht.mono hc25.le;have hu:=hu.mono hc25.le;have hr21:=hr21.mono hc25.le;refine Lm Y ha fun a ha=>?_;refine lin Y (ao (v:=(.slice A25 (((freeU ss t).1).length) c25)) ha Y Y Y fun a ha=>?_);refine lin Y (ao (v:=(iV 0)) ha Y Y Y fun a ha=>?_);refine Ls Y ha fun a ha=>?_;refine Ls Y ha fun a ha=>?_;refine wpList_nil (aa (wp_seq (wp_seq (ab (Lm Y ha fun a ha=>?_)))));refine lin Y (a7 (i:=((wholeU ss t).2)) (j:=0) ha Y Y Y fun a ha=>?_);refine Lm Y ha fun a ha=>?_;refine aH (t:=71) ha Y (fun h28 ha=>?_) (fun h28 ha=>?_)
      ·refine Lf Y ha Y Y fun a ha=>?_;refine Lf Y ha Y Y fun a ha=>?_;refine lin Y (aj ha Y Y Y fun a ha=>?_);refine wpList_nil (aa (ar ha Y (wp_seq (ab (Lm Y ha fun a ha=>?_)))));refine lin Y (aV (i:=((wholeU ss t).2)) (j:=2) ha Y Y Y fun a ha=>?_);refine Lm Y ha fun a ha=>?_;refine al (t:=77) ha Y (fun h29 ha=>?_) (fun h29 ha=>?_)
       ·refine ad Y ha Y Y Y (am ha Y Y fun a ha=>?_);refine ad Y ha Y Y Y (aV (i:=0) (j:=0) ha Y Y Y fun a ha=>?_);refine lin Y (aj ha Y Y Y fun a ha=>?_);refine Ls Y ha fun a ha=>?_;refine wpList_nil (aa (wp_ret (ak (ret1 Y ha Y ?_))));exact⟨_,rfl,hS.drop_all⟩
       ·refine Lf Y ha Y Y fun a ha=>?_;refine Lf Y ha Y Y fun a ha=>?_;refine lin Y (ah ha Y Y Y fun a ha=>?_);refine Ls Y ha fun a ha=>?_;refine wpList_nil (aa (wp_ret (ak (ret1 Y ha Y ?_))))
        exfalso
        rcases whole_err hvss hot with h_ | h_
        ·exact absurd h_ (by assumption)
        ·exact absurd h_ (by assumption)
      ·refine ad Y ha Y Y Y (am ha Y Y fun a ha=>?_);refine ad Y ha Y Y Y (a7 (i:=0) (j:=0) ha Y Y Y fun a ha=>?_);refine lin Y (ah ha Y Y Y fun a ha=>?_);refine wpList_nil (aa (an ha Y (wp_skip (aa (wp_seq (ab (lin Y (ag (vs:= [(.slice As ss.length cs)]) T24 Y ha Y (hS.blkL 5 rfl) Y (ae Y) Y fun a ha=>?_))))))));refine lin Y (ag (vs:=(tL ((wholeU ss t).1) A21 c21)) T26 Y ha Y (hS.blkL 1 rfl) Y (ae Y) Y fun a ha=>?_);have hk31:=dh hS.inv.nil hs hr21;rw [whole_again hvss hot h28] at hk31;refine lin Y (Co func41 ha Y (hk31) ?_);rintro e w ⟨H30,A30,c30,rfl,hr30,hc30⟩;refine⟨_,rfl,fun a ha=>?_⟩;have hS:=hS.call hc30;have hs:=hs.mono hc30.le;have hr:=hr.mono hc30.le;have ht:=ht.mono hc30.le;have hu:=hu.mono hc30.le;have hr21:=hr21.mono hc30.le;have hr30: RowT H30 A30 c30 (wholeU ss t).1.l:=hr30;refine Lm Y ha fun a ha=>?_;refine lin Y (ao (v:=(tv ((wholeU ss t).1) A30 c30)) ha Y Y Y fun a ha=>?_);refine lin Y (ao (v:=(iV 0)) ha Y Y Y fun a ha=>?_);refine lin Y (aC (cs:=aZ) T26 hS ha Y Y fun b32 a w hS ha=>?_);refine lin Y (aw (cs':=(tA ((wholeU ss t).1) A30 c30)) T26 hS (i:=0) Y ha Y Y Y Y Y Y fun a w hS ha=>?_);refine Ls Y ha fun a ha=>?_;refine wpList_nil (aa (wp_seq (ab (lin Y (ag (vs:=(tL ((wholeU ss t).1) A21 c21)) T26 Y ha Y (hS.blkL 2 rfl) Y (ae Y) Y fun a ha=>?_)))));refine lin Y (aD (vs:= [(0,(tv ((wholeU ss t).1) A21 c21))]) (cells:=(tL ((wholeU ss t).1) A21 c21)) T22.und T26 hS ha (ha.evp Y) Y Y Y Y fun b34 a w hS ha=>?_);obtain⟨H34,hS,hle34,hb34⟩:=hS.give;have hs:=hs.mono hle34;have hr:=hr.mono hle34;have ht:=ht.mono hle34;have hu:=hu.mono hle34;have hr21:=hr21.mono hle34;have hr30:=hr30.mono hle34;have hr34: RowT H34 (some ⟨b34,0,none⟩) 1 [(wholeU ss t).1]:=RowT.of_lit ([⟨(wholeU ss t).1,A21,c21⟩]: List TV) hb34 (AllR.cons hr21 (AllR.nil _)) (by simp) Y;have hkx_:=whole_chk hvss hot h28;have hkz_:=cM hkx_;have hk36:=c_tVars hS.inv.nil hr34 (by show isTm _=true;rw [isTm_isR];exact cl hkx_) (by rw [Tm.szL,Tm.szL];omega) (whole_nds hvss hot h28);rw [whole_vars hvss hot h28] at hk36;refine lin Y (Co func42 ha Y (hk36) ?_);rintro e w ⟨H35,A35,c35,en35,rfl,hR35,hc35⟩;refine⟨_,rfl,fun a ha=>?_⟩;have hS:=Step.frame (Lc:= []) hS hc35;have hs:=hs.mono hc35.le;have hr:=hr.mono hc35.le;have ht:=ht.mono hc35.le;have hu:=hu.mono hc35.le;have hr21:=hr21.mono hc35.le;have hr30:=hr30.mono hc35.le;refine Lm Y ha fun a ha=>?_;refine lin Y (ao (v:=(.slice A35 (((freeU ss t).1).length) c35)) ha Y Y Y fun a ha=>?_);refine lin Y (ao (v:=(iV 0)) ha Y Y Y fun a ha=>?_);refine Ls Y ha fun a ha=>?_;refine Ls Y ha fun a ha=>?_;refine wpList_nil (aa (wp_seq (wp_seq (ab (Lm Y ha fun a ha=>?_)))));refine lin Y (a7 (i:=0) (j:=0) ha Y Y Y fun a ha=>?_);refine Lm Y ha fun a ha=>?_;refine ad Y ha Y Y Y (am ha Y Y fun a ha=>?_);refine ad Y ha Y Y Y (a7 (i:=0) (j:=0) ha Y Y Y fun a ha=>?_);refine lin Y (ah ha Y Y Y fun a ha=>?_);refine Lm Y ha fun a ha=>?_;refine ad Y ha Y Y Y (ag (vs:=(tL ((wholeU ss t).1) A30 c30)) T26 Y ha Y (hS.blkL 1 rfl) Y (ae Y) Y fun a ha=>?_);refine ad Y ha Y Y Y (ag (vs:=(tL ((wholeU ss t).1) A21 c21)) T26 Y ha Y (hS.blkL 3 rfl) Y (ae Y) Y fun a ha=>?_);have hk38:=dj _ _ _ _ _ _ _ _ hr30 hr21 hS.inv.nil;rw [(b0 _ _).2 rfl] at hk38;refine ad Y ha Y Y Y (Co func43 ha Y (hk38) ?_);rintro e w ⟨rfl,hc⟩;refine⟨_,rfl,fun a ha=>?_⟩;have hS:=hS.call hc;refine ad Y ha Y Y Y (aJ ha Y Y fun a ha=>?_);refine lin Y (ah ha Y Y Y fun a ha=>?_);refine Lm Y ha fun a ha=>?_;refine ad Y ha Y Y Y (am ha Y Y fun a ha=>?_);refine ad Y ha Y Y Y (am ha Y Y fun a ha=>?_);have hk39:=eX hS.inv.nil (RdI.of_row hS.inv hR35 0 rfl freeU_len8) (RdI.of_row hS.inv hR25 2 rfl freeU_len8);rw [show decide ((freeU ss t).1=(freeU ss t).1)=true from decide_eq_true Y] at hk39;refine ad Y ha Y Y Y (Co func44 ha Y (hk39) ?_);rintro e w ⟨rfl,hc⟩;refine⟨_,rfl,fun a ha=>?_⟩;have hS:=hS.call hc;refine ad Y ha Y Y Y (aJ ha Y Y fun a ha=>?_);refine lin Y (ah ha Y Y Y fun a ha=>?_);refine wpList_nil (aa (an ha Y (wp_skip (aa (wp_seq (ab (lin Y (ag (vs:= [(.slice As ss.length cs)]) T24 Y ha Y (hS.blkL 7 rfl) Y (ae Y) Y fun a ha=>?_))))))));refine lin Y (ag (vs:=(tL u Au cu)) T26 Y ha Y (hS.blkL 4 rfl) Y (ae Y) Y fun a ha=>?_);have hk41:=dh hS.inv.nil hs hu;refine lin Y (Co func41 ha Y (hk41) ?_);rintro e w ⟨H40,A40,c40,rfl,hr40,hc40⟩;refine⟨_,rfl,fun a ha=>?_⟩;have hS:=hS.call hc40;have hs:=hs.mono hc40.le;have hr:=hr.mono hc40.le;have ht:=ht.mono hc40.le;have hu:=hu.mono hc40.le;have hr21:=hr21.mono hc40.le;refine Lm Y ha fun a ha=>?_;refine lin Y (ao (v:=(tv ((wholeU ss u).1) A40 c40)) ha Y Y Y fun a ha=>?_);refine lin Y (ao (v:=(iV ((wholeU ss u).2))) ha Y Y Y fun a ha=>?_);refine lin Y (aC (cs:=aZ) T26 hS ha Y Y fun b42 a w hS ha=>?_);refine lin Y (aw (cs':=(tA ((wholeU ss u).1) A40 c40)) T26 hS (i:=0) Y ha Y Y Y Y Y Y fun a w hS ha=>?_);refine Ls Y ha fun a ha=>?_;refine wpList_nil (aa (wp_seq (ab (lin Y (ag (vs:= [(.slice As ss.length cs)]) T24 Y ha Y (hS.blkL 8 rfl) Y (ae Y) Y fun a ha=>?_)))));refine lin Y (ag (vs:=(tL t At ct)) T26 Y ha Y (hS.blkL 6 rfl) Y (ae Y) Y fun a ha=>?_);refine lin Y (ag (vs:=(tL u Au cu)) T26 Y ha Y (hS.blkL 5 rfl) Y (ae Y) Y fun a ha=>?_);have hk44:=rsP (c_USame hS.inv.nil hs ht hu);refine lin Y (Cs func18 ha Y (hk44) hS fun a w ha hS=>?_);refine Lm Y ha fun a ha=>?_;refine lin Y (ao (v:=(.bool ((sameU ss t u).1))) ha Y Y Y fun a ha=>?_);refine lin Y (ao (v:=(iV ((sameU ss t u).2))) ha Y Y Y fun a ha=>?_);refine Ls Y ha fun a ha=>?_;refine Ls Y ha fun a ha=>?_;refine wpList_nil (aa (wp_seq (wp_seq (ab (Lm Y ha fun a ha=>?_)))));refine lin Y (aV (i:=((wholeU ss u).2)) (j:=0) ha Y Y Y fun a ha=>?_);refine Lm Y ha fun a ha=>?_;refine al (t:=126) ha Y (fun h45 ha=>?_) (fun h45 ha=>?_)
       ·refine ad Y ha Y Y Y (am ha Y Y fun a ha=>?_);refine ad Y ha Y Y Y (aV (i:=((sameU ss t u).2)) (j:=0) ha Y Y Y fun a ha=>?_);refine lin Y (aj ha Y Y Y fun a ha=>?_);refine Lm Y ha fun a ha=>?_;refine al (t:=130) ha Y (fun h46 ha=>?_) (fun h46 ha=>?_)
        ·refine ad Y ha Y Y Y (am ha Y Y fun a ha=>?_);refine ad Y ha Y Y Y (ag (vs:=(tL ((wholeU ss t).1) A21 c21)) T26 Y ha Y (hS.blkL 4 rfl) Y (ae Y) Y fun a ha=>?_);refine ad Y ha Y Y Y (ag (vs:=(tL ((wholeU ss u).1) A40 c40)) T26 Y ha Y (hS.blkL 0 rfl) Y (ae Y) Y fun a ha=>?_);have hk47:=dj _ _ _ _ _ _ _ _ hr21 hr40 hS.inv.nil;refine ad Y ha Y Y Y (Co func43 ha Y (hk47) ?_);rintro e w ⟨rfl,hc⟩;refine⟨_,rfl,fun a ha=>?_⟩;have hS:=hS.call hc;refine ad Y ha Y Y Y (o_neb T4.und ha Y Y Y fun a ha=>?_);refine lin Y (aj ha Y Y Y fun a ha=>?_);refine wpList_nil (aa (ap (t:=136) ha Y (fun h48 ha=>?_) (fun h48 ha=>?_)))
         ·refine ar ha Y (wp_seq (ab (Ls Y ha fun a ha=>?_)));refine wpList_nil (aa (wp_ret (ak (ret1 Y ha Y ?_))))
          exfalso
          rw [whole_same hvss hot hou h28 h45 h46] at h48;simp at h48
         ·refine an ha Y (wp_skip (aa (wp_seq (wp_seq (ab (lin Y (ag (vs:= [(.slice Ar rr.length cr)]) T24 Y ha Y (hS.blkL 7 rfl) Y (ae Y) Y fun a ha=>?_)))))));have hk49:=c_Is hS.inv.nil hr (dP h14);refine lin Y (Cs func13 ha Y (hk49) hS fun a w ha hS=>?_);refine lin Y (aJ ha Y Y fun a ha=>?_);refine Lm Y ha fun a ha=>?_;refine ap (t:=140) ha Y (fun h50 ha=>?_) (fun h50 ha=>?_)
          ·refine Lf Y ha Y Y fun a ha=>?_;refine Lf Y ha Y Y fun a ha=>?_;refine Lf Y ha Y Y fun a ha=>?_;refine Lf Y ha Y Y fun a ha=>?_;refine Lf Y ha Y Y fun a ha=>?_;refine Lf Y ha Y Y fun a ha=>?_;refine Lf Y ha Y Y fun a ha=>?_;refine lin Y (aj ha Y Y Y fun a ha=>?_);refine wpList_nil (aa (ar ha Y (wp_seq (ab (Ls Y ha fun a ha=>?_)))));refine wpList_nil (aa (wp_ret (ak (ret1 Y ha Y ?_))));exact⟨_,rfl,hS.drop_all⟩
          ·have hvrr: isB rr=true:=by simpa using h50
           refine ad Y ha Y Y Y (ac (f:=0) (o2:=0) T24 T22 Y Y Y Y ha Y Y fun a ha=>?_);refine ad Y ha Y Y Y (af (v:=(.slice Ar rr.length cr)) T22 Y ha Y (hS.blkL 7 rfl) Y Y fun a ha=>?_);refine ad Y ha Y Y Y (aE T22.und ha Y Y fun a ha=>?_);refine ad Y ha Y Y Y (ac (f:=0) (o2:=0) T24 T22 Y Y Y Y ha Y Y fun a ha=>?_);refine ad Y ha Y Y Y (af (v:=(.slice As ss.length cs)) T22 Y ha Y (hS.blkL 8 rfl) Y Y fun a ha=>?_);refine ad Y ha Y Y Y (aE T22.und ha Y Y fun a ha=>?_);refine ad Y ha Y Y Y (a7 (i:=((rr.length: Nat): Int)) (j:=((ss.length: Nat): Int)) ha Y Y Y fun a ha=>?_);refine lin Y (ah ha Y Y Y fun a ha=>?_);refine wpList_nil (aa (aH (t:=148) ha Y (fun h51 ha=>?_) (fun h51 ha=>?_)))
           ·refine ar ha Y (wp_seq (ab (Ls Y ha fun a ha=>?_)));refine wpList_nil (aa (wp_ret (ak (ret1 Y ha Y ?_))));exact⟨_,rfl,hS.drop_all⟩
           ·have hlen_: rr.length=ss.length:=by omega
            refine an ha Y (wp_skip (aa (wp_seq (ab (lin Y (ag (vs:= [(.slice As ss.length cs)]) T24 Y ha Y (hS.blkL 8 rfl) Y (ae Y) Y fun a ha=>?_))))));refine lin Y (ag (vs:= [(.slice Ar rr.length cr)]) T24 Y ha Y (hS.blkL 7 rfl) Y (ae Y) Y fun a ha=>?_);have hk52:=rsP (cv hS.inv.nil hs hr);refine lin Y (Cs func17 ha Y (hk52) hS fun a w ha hS=>?_);refine Lm Y ha fun a ha=>?_;refine lin Y (ao (v:=(.bool ((impD ss rr).1))) ha Y Y Y fun a ha=>?_);refine lin Y (ao (v:=(.bool ((impD ss rr).2))) ha Y Y Y fun a ha=>?_);refine Ls Y ha fun a ha=>?_;refine Ls Y ha fun a ha=>?_;refine wpList_nil (aa (wp_seq (ab (lin Y (ag (vs:= [(.slice Ar rr.length cr)]) T24 Y ha Y (hS.blkL 7 rfl) Y (ae Y) Y fun a ha=>?_)))));refine lin Y (ag (vs:= [(.slice As ss.length cs)]) T24 Y ha Y (hS.blkL 8 rfl) Y (ae Y) Y fun a ha=>?_);have hk53:=rsP (cv hS.inv.nil hr hs);refine lin Y (Cs func17 ha Y (hk53) hS fun a w ha hS=>?_);refine Lm Y ha fun a ha=>?_;refine lin Y (ao (v:=(.bool ((impD rr ss).1))) ha Y Y Y fun a ha=>?_);refine lin Y (ao (v:=(.bool ((impD rr ss).2))) ha Y Y Y fun a ha=>?_);refine Ls Y ha fun a ha=>?_;refine Ls Y ha fun a ha=>?_;refine wpList_nil (aa (wp_seq (wp_seq (ab (Lm Y ha fun a ha=>?_)))));refine lin Y (aJ ha Y Y fun a ha=>?_);refine Lm Y ha fun a ha=>?_;refine ap (t:=163) ha Y (fun h54 ha=>?_) (fun h54 ha=>?_)
            ·refine Lf Y ha Y Y fun a ha=>?_;refine Lf Y ha Y Y fun a ha=>?_;refine lin Y (aj ha Y Y Y fun a ha=>?_);refine Lm Y ha fun a ha=>?_;refine Lf Y ha Y Y fun a ha=>?_;refine Lf Y ha Y Y fun a ha=>?_;refine lin Y (aj ha Y Y Y fun a ha=>?_);refine Lm Y ha fun a ha=>?_;refine Lf Y ha Y Y fun a ha=>?_;refine Lf Y ha Y Y fun a ha=>?_;refine lin Y (aj ha Y Y Y fun a ha=>?_);refine wpList_nil (aa (ar ha Y (wp_seq (ab (Ls Y ha fun a ha=>?_)))));refine wpList_nil (aa (wp_ret (ak (ret1 Y ha Y ?_))));exact⟨_,rfl,hS.drop_all⟩
            ·refine ad Y ha Y Y Y (am ha Y Y fun a ha=>?_);refine ad Y ha Y Y Y (aJ ha Y Y fun a ha=>?_);refine lin Y (ah ha Y Y Y fun a ha=>?_);refine Lm Y ha fun a ha=>?_;refine ap (t:=167) ha Y (fun h55 ha=>?_) (fun h55 ha=>?_)
             ·refine Lf Y ha Y Y fun a ha=>?_;refine Lf Y ha Y Y fun a ha=>?_;refine lin Y (aj ha Y Y Y fun a ha=>?_);refine Lm Y ha fun a ha=>?_;refine Lf Y ha Y Y fun a ha=>?_;refine Lf Y ha Y Y fun a ha=>?_;refine lin Y (aj ha Y Y Y fun a ha=>?_);refine wpList_nil (aa (ar ha Y (wp_seq (ab (Ls Y ha fun a ha=>?_)))));refine wpList_nil (aa (wp_ret (ak (ret1 Y ha Y ?_))));exact⟨_,rfl,hS.drop_all⟩
             ·refine ad Y ha Y Y Y (am ha Y Y fun a ha=>?_);refine ad Y ha Y Y Y (aJ ha Y Y fun a ha=>?_);refine lin Y (ah ha Y Y Y fun a ha=>?_);refine Lm Y ha fun a ha=>?_;refine ap (t:=171) ha Y (fun h56 ha=>?_) (fun h56 ha=>?_)
              ·refine Lf Y ha Y Y fun a ha=>?_;refine Lf Y ha Y Y fun a ha=>?_;refine lin Y (aj ha Y Y Y fun a ha=>?_);refine wpList_nil (aa (ar ha Y (wp_seq (ab (Ls Y ha fun a ha=>?_)))));refine wpList_nil (aa (wp_ret (ak (ret1 Y ha Y ?_))));exact⟨_,rfl,hS.drop_all⟩
              ·refine ad Y ha Y Y Y (am ha Y Y fun a ha=>?_);refine ad Y ha Y Y Y (aJ ha Y Y fun a ha=>?_);refine lin Y (ah ha Y Y Y fun a ha=>?_);refine wpList_nil (aa (ap (t:=174) ha Y (fun h57 ha=>?_) (fun h57 ha=>?_)))
               ·refine ar ha Y (wp_seq (ab (Ls Y ha fun a ha=>?_)));refine wpList_nil (aa (wp_ret (ak (ret1 Y ha Y ?_))));exact⟨_,rfl,hS.drop_all⟩
               ·refine an ha Y (wp_skip (aa (wp_seq (ab (lin Y (ag (vs:= [(.slice Ar rr.length cr)]) T24 Y ha Y (hS.blkL 7 rfl) Y (ae Y) Y fun a ha=>?_))))));refine lin Y (ag (vs:=(tL t At ct)) T26 Y ha Y (hS.blkL 6 rfl) Y (ae Y) Y fun a ha=>?_);have hk59:=dh hS.inv.nil hr ht;rw [eb hvss hvrr hlen_ (by simpa using h54) (by simpa using h55) (by simpa using h56) (by simpa using h57) hot h28] at hk59;refine lin Y (Co func41 ha Y (hk59) ?_);rintro e w ⟨H58,A58,c58,rfl,hr58,hc58⟩;refine⟨_,rfl,fun a ha=>?_⟩;have hS:=hS.call hc58;have hr21:=hr21.mono hc58.le;have hr58: RowT H58 A58 c58 (wholeU ss t).1.l:=hr58;refine Lm Y ha fun a ha=>?_;refine lin Y (ao (v:=(tv ((wholeU ss t).1) A58 c58)) ha Y Y Y fun a ha=>?_);refine lin Y (ao (v:=(iV 0)) ha Y Y Y fun a ha=>?_);refine lin Y (aC (cs:=aZ) T26 hS ha Y Y fun b60 a w hS ha=>?_);refine lin Y (aw (cs':=(tA ((wholeU ss t).1) A58 c58)) T26 hS (i:=0) Y ha Y Y Y Y Y Y fun a w hS ha=>?_);refine Ls Y ha fun a ha=>?_;refine wpList_nil (aa (wp_seq (ab (Lm Y ha fun a ha=>?_))));refine lin Y (aV (i:=0) (j:=0) ha Y Y Y fun a ha=>?_);refine Lm Y ha fun a ha=>?_;refine ad Y ha Y Y Y (ag (vs:=(tL ((wholeU ss t).1) A58 c58)) T26 Y ha Y (hS.blkL 0 rfl) Y (ae Y) Y fun a ha=>?_);refine ad Y ha Y Y Y (ag (vs:=(tL ((wholeU ss t).1) A21 c21)) T26 Y ha Y (hS.blkL 5 rfl) Y (ae Y) Y fun a ha=>?_);have hk62:=dj _ _ _ _ _ _ _ _ hr58 hr21 hS.inv.nil;rw [(b0 _ _).2 rfl] at hk62;refine ad Y ha Y Y Y (Co func43 ha Y (hk62) ?_);rintro e w ⟨rfl,hc⟩;refine⟨_,rfl,fun a ha=>?_⟩;have hS:=hS.call hc;refine lin Y (aj ha Y Y Y fun a ha=>?_);refine Ls Y ha fun a ha=>?_;refine wpList_nil (aa (wp_ret (ret1 Y ha Y ?_)));exact⟨_,rfl,hS.drop_all⟩
        ·refine Lf Y ha Y Y fun a ha=>?_;refine Lf Y ha Y Y fun a ha=>?_;refine Lf Y ha Y Y fun a ha=>?_;refine Lf Y ha Y Y fun a ha=>?_;refine Lf Y ha Y Y fun a ha=>?_;refine lin Y (ah ha Y Y Y fun a ha=>?_);refine wpList_nil (aa (an ha Y (wp_skip (aa (wp_seq (wp_seq (ab (lin Y (ag (vs:= [(.slice Ar rr.length cr)]) T24 Y ha Y (hS.blkL 7 rfl) Y (ae Y) Y fun a ha=>?_)))))))));have hk63:=c_Is hS.inv.nil hr (dP h14);refine lin Y (Cs func13 ha Y (hk63) hS fun a w ha hS=>?_);refine lin Y (aJ ha Y Y fun a ha=>?_);refine Lm Y ha fun a ha=>?_;refine ap (t:=140) ha Y (fun h64 ha=>?_) (fun h64 ha=>?_)
         ·refine Lf Y ha Y Y fun a ha=>?_;refine Lf Y ha Y Y fun a ha=>?_;refine Lf Y ha Y Y fun a ha=>?_;refine Lf Y ha Y Y fun a ha=>?_;refine Lf Y ha Y Y fun a ha=>?_;refine Lf Y ha Y Y fun a ha=>?_;refine Lf Y ha Y Y fun a ha=>?_;refine lin Y (aj ha Y Y Y fun a ha=>?_);refine wpList_nil (aa (ar ha Y (wp_seq (ab (Ls Y ha fun a ha=>?_)))));refine wpList_nil (aa (wp_ret (ak (ret1 Y ha Y ?_))));exact⟨_,rfl,hS.drop_all⟩
         ·have hvrr: isB rr=true:=by simpa using h64
          refine ad Y ha Y Y Y (ac (f:=0) (o2:=0) T24 T22 Y Y Y Y ha Y Y fun a ha=>?_);refine ad Y ha Y Y Y (af (v:=(.slice Ar rr.length cr)) T22 Y ha Y (hS.blkL 7 rfl) Y Y fun a ha=>?_);refine ad Y ha Y Y Y (aE T22.und ha Y Y fun a ha=>?_);refine ad Y ha Y Y Y (ac (f:=0) (o2:=0) T24 T22 Y Y Y Y ha Y Y fun a ha=>?_);refine ad Y ha Y Y Y (af (v:=(.slice As ss.length cs)) T22 Y ha Y (hS.blkL 8 rfl) Y Y fun a ha=>?_);refine ad Y ha Y Y Y (aE T22.und ha Y Y fun a ha=>?_);refine ad Y ha Y Y Y (a7 (i:=((rr.length: Nat): Int)) (j:=((ss.length: Nat): Int)) ha Y Y Y fun a ha=>?_);refine lin Y (ah ha Y Y Y fun a ha=>?_);refine wpList_nil (aa (aH (t:=148) ha Y (fun h65 ha=>?_) (fun h65 ha=>?_)))
          ·refine ar ha Y (wp_seq (ab (Ls Y ha fun a ha=>?_)));refine wpList_nil (aa (wp_ret (ak (ret1 Y ha Y ?_))));exact⟨_,rfl,hS.drop_all⟩
          ·have hlen_: rr.length=ss.length:=by omega
           refine an ha Y (wp_skip (aa (wp_seq (ab (lin Y (ag (vs:= [(.slice As ss.length cs)]) T24 Y ha Y (hS.blkL 8 rfl) Y (ae Y) Y fun a ha=>?_))))));refine lin Y (ag (vs:= [(.slice Ar rr.length cr)]) T24 Y ha Y (hS.blkL 7 rfl) Y (ae Y) Y fun a ha=>?_);have hk66:=rsP (cv hS.inv.nil hs hr);refine lin Y (Cs func17 ha Y (hk66) hS fun a w ha hS=>?_);refine Lm Y ha fun a ha=>?_;refine lin Y (ao (v:=(.bool ((impD ss rr).1))) ha Y Y Y fun a ha=>?_);refine lin Y (ao (v:=(.bool ((impD ss rr).2))) ha Y Y Y fun a ha=>?_);refine Ls Y ha fun a ha=>?_;refine Ls Y ha fun a ha=>?_;refine wpList_nil (aa (wp_seq (ab (lin Y (ag (vs:= [(.slice Ar rr.length cr)]) T24 Y ha Y (hS.blkL 7 rfl) Y (ae Y) Y fun a ha=>?_)))));refine lin Y (ag (vs:= [(.slice As ss.length cs)]) T24 Y ha Y (hS.blkL 8 rfl) Y (ae Y) Y fun a ha=>?_);have hk67:=rsP (cv hS.inv.nil hr hs);refine lin Y (Cs func17 ha Y (hk67) hS fun a w ha hS=>?_);refine Lm Y ha fun a ha=>?_;refine lin Y (ao (v:=(.bool ((impD rr ss).1))) ha Y Y Y fun a ha=>?_);refine lin Y (ao (v:=(.bool ((impD rr ss).2))) ha Y Y Y fun a ha=>?_);refine Ls Y ha fun a ha=>?_;refine Ls Y ha fun a ha=>?_;refine wpList_nil (aa (wp_seq (wp_seq (ab (Lm Y ha fun a ha=>?_)))));refine lin Y (aJ ha Y Y fun a ha=>?_);refine Lm Y ha fun a ha=>?_;refine ap (t:=163) ha Y (fun h68 ha=>?_) (fun h68 ha=>?_)
           ·refine Lf Y ha Y Y fun a ha=>?_;refine Lf Y ha Y Y fun a ha=>?_;refine lin Y (aj ha Y Y Y fun a ha=>?_);refine Lm Y ha fun a ha=>?_;refine Lf Y ha Y Y fun a ha=>?_;refine Lf Y ha Y Y fun a ha=>?_;refine lin Y (aj ha Y Y Y fun a ha=>?_);refine Lm Y ha fun a ha=>?_;refine Lf Y ha Y Y fun a ha=>?_;refine Lf Y ha Y Y fun a ha=>?_;refine lin Y (aj ha Y Y Y fun a ha=>?_);refine wpList_nil (aa (ar ha Y (wp_seq (ab (Ls Y ha fun a ha=>?_)))));refine wpList_nil (aa (wp_ret (ak (ret1 Y ha Y ?_))));exact⟨_,rfl,hS.drop_all⟩
           ·refine ad Y ha Y Y Y (am ha Y Y fun a ha=>?_);refine ad Y ha Y Y Y (aJ ha Y Y fun a ha=>?_);refine lin Y (ah ha Y Y Y fun a ha=>?_);refine Lm Y ha fun a ha=>?_;refine ap (t:=167) ha Y (fun h69 ha=>?_) (fun h69 ha=>?_)
            ·refine Lf Y ha Y Y fun a ha=>?_;refine Lf Y ha Y Y fun a ha=>?_;refine lin Y (aj ha Y Y Y fun a ha=>?_);refine Lm Y ha fun a ha=>?_;refine Lf Y ha Y Y fun a ha=>?_;refine Lf Y ha Y Y fun a ha=>?_;refine lin Y (aj ha Y Y Y fun a ha=>?_);refine wpList_nil (aa (ar ha Y (wp_seq (ab (Ls Y ha fun a ha=>?_)))));refine wpList_nil (aa (wp_ret (ak (ret1 Y ha Y ?_))));exact⟨_,rfl,hS.drop_all⟩
            ·refine ad Y ha Y Y Y (am ha Y Y fun a ha=>?_);refine ad Y ha Y Y Y (aJ ha Y Y fun a ha=>?_);refine lin Y (ah ha Y Y Y fun a ha=>?_);refine Lm Y ha fun a ha=>?_;refine ap (t:=171) ha Y (fun h70 ha=>?_) (fun h70 ha=>?_)
             ·refine Lf Y ha Y Y fun a ha=>?_;refine Lf Y ha Y Y fun a ha=>?_;refine lin Y (aj ha Y Y Y fun a ha=>?_);refine wpList_nil (aa (ar ha Y (wp_seq (ab (Ls Y ha fun a ha=>?_)))));refine wpList_nil (aa (wp_ret (ak (ret1 Y ha Y ?_))));exact⟨_,rfl,hS.drop_all⟩
             ·refine ad Y ha Y Y Y (am ha Y Y fun a ha=>?_);refine ad Y ha Y Y Y (aJ ha Y Y fun a ha=>?_);refine lin Y (ah ha Y Y Y fun a ha=>?_);refine wpList_nil (aa (ap (t:=174) ha Y (fun h71 ha=>?_) (fun h71 ha=>?_)))
              ·refine ar ha Y (wp_seq (ab (Ls Y ha fun a ha=>?_)));refine wpList_nil (aa (wp_ret (ak (ret1 Y ha Y ?_))));exact⟨_,rfl,hS.drop_all⟩
              ·refine an ha Y (wp_skip (aa (wp_seq (ab (lin Y (ag (vs:= [(.slice Ar rr.length cr)]) T24 Y ha Y (hS.blkL 7 rfl) Y (ae Y) Y fun a ha=>?_))))));refine lin Y (ag (vs:=(tL t At ct)) T26 Y ha Y (hS.blkL 6 rfl) Y (ae Y) Y fun a ha=>?_);have hk73:=dh hS.inv.nil hr ht;rw [eb hvss hvrr hlen_ (by simpa using h68) (by simpa using h69) (by simpa using h70) (by simpa using h71) hot h28] at hk73;refine lin Y (Co func41 ha Y (hk73) ?_);rintro e w ⟨H72,A72,c72,rfl,hr72,hc72⟩;refine⟨_,rfl,fun a ha=>?_⟩;have hS:=hS.call hc72;have hr21:=hr21.mono hc72.le;have hr72: RowT H72 A72 c72 (wholeU ss t).1.l:=hr72;refine Lm Y ha fun a ha=>?_;refine lin Y (ao (v:=(tv ((wholeU ss t).1) A72 c72)) ha Y Y Y fun a ha=>?_);refine lin Y (ao (v:=(iV 0)) ha Y Y Y fun a ha=>?_);refine lin Y (aC (cs:=aZ) T26 hS ha Y Y fun b74 a w hS ha=>?_);refine lin Y (aw (cs':=(tA ((wholeU ss t).1) A72 c72)) T26 hS (i:=0) Y ha Y Y Y Y Y Y fun a w hS ha=>?_);refine Ls Y ha fun a ha=>?_;refine wpList_nil (aa (wp_seq (ab (Lm Y ha fun a ha=>?_))));refine lin Y (aV (i:=0) (j:=0) ha Y Y Y fun a ha=>?_);refine Lm Y ha fun a ha=>?_;refine ad Y ha Y Y Y (ag (vs:=(tL ((wholeU ss t).1) A72 c72)) T26 Y ha Y (hS.blkL 0 rfl) Y (ae Y) Y fun a ha=>?_);refine ad Y ha Y Y Y (ag (vs:=(tL ((wholeU ss t).1) A21 c21)) T26 Y ha Y (hS.blkL 5 rfl) Y (ae Y) Y fun a ha=>?_);have hk76:=dj _ _ _ _ _ _ _ _ hr72 hr21 hS.inv.nil;rw [(b0 _ _).2 rfl] at hk76;refine ad Y ha Y Y Y (Co func43 ha Y (hk76) ?_);rintro e w ⟨rfl,hc⟩;refine⟨_,rfl,fun a ha=>?_⟩;have hS:=hS.call hc;refine lin Y (aj ha Y Y Y fun a ha=>?_);refine Ls Y ha fun a ha=>?_;refine wpList_nil (aa (wp_ret (ret1 Y ha Y ?_)));exact⟨_,rfl,hS.drop_all⟩
       ·refine Lf Y ha Y Y fun a ha=>?_;refine Lf Y ha Y Y fun a ha=>?_;refine lin Y (ah ha Y Y Y fun a ha=>?_);refine Lm Y ha fun a ha=>?_;refine Lf Y ha Y Y fun a ha=>?_;refine Lf Y ha Y Y fun a ha=>?_;refine Lf Y ha Y Y fun a ha=>?_;refine Lf Y ha Y Y fun a ha=>?_;refine Lf Y ha Y Y fun a ha=>?_;refine lin Y (ah ha Y Y Y fun a ha=>?_);refine wpList_nil (aa (an ha Y (wp_skip (aa (wp_seq (wp_seq (ab (lin Y (ag (vs:= [(.slice Ar rr.length cr)]) T24 Y ha Y (hS.blkL 7 rfl) Y (ae Y) Y fun a ha=>?_)))))))));have hk77:=c_Is hS.inv.nil hr (dP h14);refine lin Y (Cs func13 ha Y (hk77) hS fun a w ha hS=>?_);refine lin Y (aJ ha Y Y fun a ha=>?_);refine Lm Y ha fun a ha=>?_;refine ap (t:=140) ha Y (fun h78 ha=>?_) (fun h78 ha=>?_)
        ·refine Lf Y ha Y Y fun a ha=>?_;refine Lf Y ha Y Y fun a ha=>?_;refine Lf Y ha Y Y fun a ha=>?_;refine Lf Y ha Y Y fun a ha=>?_;refine Lf Y ha Y Y fun a ha=>?_;refine Lf Y ha Y Y fun a ha=>?_;refine Lf Y ha Y Y fun a ha=>?_;refine lin Y (aj ha Y Y Y fun a ha=>?_);refine wpList_nil (aa (ar ha Y (wp_seq (ab (Ls Y ha fun a ha=>?_)))));refine wpList_nil (aa (wp_ret (ak (ret1 Y ha Y ?_))));exact⟨_,rfl,hS.drop_all⟩
        ·have hvrr: isB rr=true:=by simpa using h78
         refine ad Y ha Y Y Y (ac (f:=0) (o2:=0) T24 T22 Y Y Y Y ha Y Y fun a ha=>?_);refine ad Y ha Y Y Y (af (v:=(.slice Ar rr.length cr)) T22 Y ha Y (hS.blkL 7 rfl) Y Y fun a ha=>?_);refine ad Y ha Y Y Y (aE T22.und ha Y Y fun a ha=>?_);refine ad Y ha Y Y Y (ac (f:=0) (o2:=0) T24 T22 Y Y Y Y ha Y Y fun a ha=>?_);refine ad Y ha Y Y Y (af (v:=(.slice As ss.length cs)) T22 Y ha Y (hS.blkL 8 rfl) Y Y fun a ha=>?_);refine ad Y ha Y Y Y (aE T22.und ha Y Y fun a ha=>?_);refine ad Y ha Y Y Y (a7 (i:=((rr.length: Nat): Int)) (j:=((ss.length: Nat): Int)) ha Y Y Y fun a ha=>?_);refine lin Y (ah ha Y Y Y fun a ha=>?_);refine wpList_nil (aa (aH (t:=148) ha Y (fun h79 ha=>?_) (fun h79 ha=>?_)))
         ·refine ar ha Y (wp_seq (ab (Ls Y ha fun a ha=>?_)));refine wpList_nil (aa (wp_ret (ak (ret1 Y ha Y ?_))));exact⟨_,rfl,hS.drop_all⟩
         ·have hlen_: rr.length=ss.length:=by omega
          refine an ha Y (wp_skip (aa (wp_seq (ab (lin Y (ag (vs:= [(.slice As ss.length cs)]) T24 Y ha Y (hS.blkL 8 rfl) Y (ae Y) Y fun a ha=>?_))))));refine lin Y (ag (vs:= [(.slice Ar rr.length cr)]) T24 Y ha Y (hS.blkL 7 rfl) Y (ae Y) Y fun a ha=>?_);have hk80:=rsP (cv hS.inv.nil hs hr);refine lin Y (Cs func17 ha Y (hk80) hS fun a w ha hS=>?_);refine Lm Y ha fun a ha=>?_;refine lin Y (ao (v:=(.bool ((impD ss rr).1))) ha Y Y Y fun a ha=>?_);refine lin Y (ao (v:=(.bool ((impD ss rr).2))) ha Y Y Y fun a ha=>?_);refine Ls Y ha fun a ha=>?_;refine Ls Y ha fun a ha=>?_;refine wpList_nil (aa (wp_seq (ab (lin Y (ag (vs:= [(.slice Ar rr.length cr)]) T24 Y ha Y (hS.blkL 7 rfl) Y (ae Y) Y fun a ha=>?_)))));refine lin Y (ag (vs:= [(.slice As ss.length cs)]) T24 Y ha Y (hS.blkL 8 rfl) Y (ae Y) Y fun a ha=>?_);have hk81:=rsP (cv hS.inv.nil hr hs);refine lin Y (Cs func17 ha Y (hk81) hS fun a w ha hS=>?_);refine Lm Y ha fun a ha=>?_;refine lin Y (ao (v:=(.bool ((impD rr ss).1))) ha Y Y Y fun a ha=>?_);refine lin Y (ao (v:=(.bool ((impD rr ss).2))) ha Y Y Y fun a ha=>?_);refine Ls Y ha fun a ha=>?_;refine Ls Y ha fun a ha=>?_;refine wpList_nil (aa (wp_seq (wp_seq (ab (Lm Y ha fun a ha=>?_)))));refine lin Y (aJ ha Y Y fun a ha=>?_);refine Lm Y ha fun a ha=>?_;refine ap (t:=163) ha Y (fun h82 ha=>?_) (fun h82 ha=>?_)
          ·refine Lf Y ha Y Y fun a ha=>?_;refine Lf Y ha Y Y fun a ha=>?_;refine lin Y (aj ha Y Y Y fun a ha=>?_);refine Lm Y ha fun a ha=>?_;refine Lf Y ha Y Y fun a ha=>?_;refine Lf Y ha Y Y fun a ha=>?_;refine lin Y (aj ha Y Y Y fun a ha=>?_);refine Lm Y ha fun a ha=>?_;refine Lf Y ha Y Y fun a ha=>?_;refine Lf Y ha Y Y fun a ha=>?_;refine lin Y (aj ha Y Y Y fun a ha=>?_);refine wpList_nil (aa (ar ha Y (wp_seq (ab (Ls Y ha fun a ha=>?_)))));refine wpList_nil (aa (wp_ret (ak (ret1 Y ha Y ?_))));exact⟨_,rfl,hS.drop_all⟩
          ·refine ad Y ha Y Y Y (am ha Y Y fun a ha=>?_);refine ad Y ha Y Y Y (aJ ha Y Y fun a ha=>?_);refine lin Y (ah ha Y Y Y fun a ha=>?_);refine Lm Y ha fun a ha=>?_;refine ap (t:=167) ha Y (fun h83 ha=>?_) (fun h83 ha=>?_)
           ·refine Lf Y ha Y Y fun a ha=>?_;refine Lf Y ha Y Y fun a ha=>?_;refine lin Y (aj ha Y Y Y fun a ha=>?_);refine Lm Y ha fun a ha=>?_;refine Lf Y ha Y Y fun a ha=>?_;refine Lf Y ha Y Y fun a ha=>?_;refine lin Y (aj ha Y Y Y fun a ha=>?_);refine wpList_nil (aa (ar ha Y (wp_seq (ab (Ls Y ha fun a ha=>?_)))));refine wpList_nil (aa (wp_ret (ak (ret1 Y ha Y ?_))));exact⟨_,rfl,hS.drop_all⟩
           ·refine ad Y ha Y Y Y (am ha Y Y fun a ha=>?_);refine ad Y ha Y Y Y (aJ ha Y Y fun a ha=>?_);refine lin Y (ah ha Y Y Y fun a ha=>?_);refine Lm Y ha fun a ha=>?_;refine ap (t:=171) ha Y (fun h84 ha=>?_) (fun h84 ha=>?_)
            ·refine Lf Y ha Y Y fun a ha=>?_;refine Lf Y ha Y Y fun a ha=>?_;refine lin Y (aj ha Y Y Y fun a ha=>?_);refine wpList_nil (aa (ar ha Y (wp_seq (ab (Ls Y ha fun a ha=>?_)))));refine wpList_nil (aa (wp_ret (ak (ret1 Y ha Y ?_))));exact⟨_,rfl,hS.drop_all⟩
            ·refine ad Y ha Y Y Y (am ha Y Y fun a ha=>?_);refine ad Y ha Y Y Y (aJ ha Y Y fun a ha=>?_);refine lin Y (ah ha Y Y Y fun a ha=>?_);refine wpList_nil (aa (ap (t:=174) ha Y (fun h85 ha=>?_) (fun h85 ha=>?_)))
             ·refine ar ha Y (wp_seq (ab (Ls Y ha fun a ha=>?_)));refine wpList_nil (aa (wp_ret (ak (ret1 Y ha Y ?_))));exact⟨_,rfl,hS.drop_all⟩
             ·refine an ha Y (wp_skip (aa (wp_seq (ab (lin Y (ag (vs:= [(.slice Ar rr.length cr)]) T24 Y ha Y (hS.blkL 7 rfl) Y (ae Y) Y fun a ha=>?_))))));refine lin Y (ag (vs:=(tL t At ct)) T26 Y ha Y (hS.blkL 6 rfl) Y (ae Y) Y fun a ha=>?_);have hk87:=dh hS.inv.nil hr ht;rw [eb hvss hvrr hlen_ (by simpa using h82) (by simpa using h83) (by simpa using h84) (by simpa using h85) hot h28] at hk87;refine lin Y (Co func41 ha Y (hk87) ?_);rintro e w ⟨H86,A86,c86,rfl,hr86,hc86⟩;refine⟨_,rfl,fun a ha=>?_⟩;have hS:=hS.call hc86;have hr21:=hr21.mono hc86.le;have hr86: RowT H86 A86 c86 (wholeU ss t).1.l:=hr86;refine Lm Y ha fun a ha=>?_;refine lin Y (ao (v:=(tv ((wholeU ss t).1) A86 c86)) ha Y Y Y fun a ha=>?_);refine lin Y (ao (v:=(iV 0)) ha Y Y Y fun a ha=>?_);refine lin Y (aC (cs:=aZ) T26 hS ha Y Y fun b88 a w hS ha=>?_);refine lin Y (aw (cs':=(tA ((wholeU ss t).1) A86 c86)) T26 hS (i:=0) Y ha Y Y Y Y Y Y fun a w hS ha=>?_);refine Ls Y ha fun a ha=>?_;refine wpList_nil (aa (wp_seq (ab (Lm Y ha fun a ha=>?_))));refine lin Y (aV (i:=0) (j:=0) ha Y Y Y fun a ha=>?_);refine Lm Y ha fun a ha=>?_;refine ad Y ha Y Y Y (ag (vs:=(tL ((wholeU ss t).1) A86 c86)) T26 Y ha Y (hS.blkL 0 rfl) Y (ae Y) Y fun a ha=>?_);refine ad Y ha Y Y Y (ag (vs:=(tL ((wholeU ss t).1) A21 c21)) T26 Y ha Y (hS.blkL 5 rfl) Y (ae Y) Y fun a ha=>?_);have hk90:=dj _ _ _ _ _ _ _ _ hr86 hr21 hS.inv.nil;rw [(b0 _ _).2 rfl] at hk90;refine ad Y ha Y Y Y (Co func43 ha Y (hk90) ?_);rintro e w ⟨rfl,hc⟩;refine⟨_,rfl,fun a ha=>?_⟩;have hS:=hS.call hc;refine lin Y (aj ha Y Y Y fun a ha=>?_);refine Ls Y ha fun a ha=>?_;refine wpList_nil (aa (wp_ret (ret1 Y ha Y ?_)));exact⟨_,rfl,hS.drop_all⟩
end Go.Vk.Try
namespace Go.Vk.Try
open Go.ChangeShapes Go.WideShapes Go.ChangeAt Go.RowKit Go.Deep
theorem cells3: Go.Proofs.Try.prog.cellsOf 3=1:=by kernel_rfl
theorem cells9: Go.Proofs.Try.prog.cellsOf 9=1:=by kernel_rfl
theorem cells22: Go.Proofs.Try.prog.cellsOf 22=1:=by kernel_rfl
theorem cells26: Go.Proofs.Try.prog.cellsOf 26=4:=by kernel_rfl
section
variable {H: Type} {enc: TypeId × Value→H} {W: World}
theorem open_tm0 {n: Nat} {cs: List Value} {x: DataW H × List MemPlace} (h: DataW.trod enc prog W 0 (fun _=>true) true n 26 cs=some x) :
  ∃(k i: Int) (s: ByteArray) (v: Value) (m: Nat) (y: DataW H × List MemPlace),cs= [.int .i64 k,.int .i64 i,.string s,v]∧DataW.trod enc prog W 0 (fun _=>true) true m 22 [v]=some y∧y.1 ∈(match x.1 with | .agg ps=>ps | _=> []):=by
 obtain⟨xs,m,_,rfl,hl,hlen,hf⟩:=DataW.trod_struct T26.und h;rw [cells26] at hl
 match cs,hl with
 | [c0,c1,c2,c3],_ =>
  match xs,hlen with
  | [y0,y1,y2,y3],_ =>
   have h0:=hf 0 _ rfl;have h1:=hf 1 _ rfl;have h2:=hf 2 _ rfl;have h3:=hf 3 _ rfl;simp [cells3,cells9,cells22] at h0 h1 h2 h3;obtain⟨k,e0,_⟩:=DataW.trod_int T3.und h0;obtain⟨i,e1,_⟩:=DataW.trod_int T3.und h1;obtain⟨s,e2,_⟩:=DataW.trod_string T9.und h2;simp only [List.cons.injEq,and_true] at e0 e1 e2;subst e0 e1 e2;exact⟨k,i,s,c3,m,y3,rfl,h3,by simp⟩
theorem cell_at {a: Addr} {v: Value} (h: W.cell? a=some v): ∃(cs: Array Value) (e: Nat) (fz: Nat × Nat),a=⟨a.block,a.off,none⟩∧W.heap[a.block]? =some (.cells cs e fz)∧cs[a.off]? =some v:=by
 have hs:=World.cell?_spot h;unfold World.cell? at h;rw [hs] at h
 cases hb: W.heap[a.block]? with
 | none=>rw [hb] at h;simp at h
 | some o =>
  rw [hb] at h
  cases o with
  | cells cs e fz =>
   refine⟨cs,e,fz,?_,rfl,by simpa using h⟩
   cases a;simp at hs;simp [hs]
  | _=>simp at h
theorem dB (a: Addr) (k: Nat):(a.add k).block=a.block:=by unfold Addr.add;split <;> rfl
theorem add_off (a: Addr) (k: Nat):(a.add k).off=a.off+k:=by
 unfold Addr.add
 split
 ·omega
 ·rfl
theorem bulk_mem {d: DataW H} {l: List (DataW H)} (h: d ∈ l): Go.Proofs.Ytefepjpkelfcbaa.Rows.uptoBulk d≤Go.Proofs.Ytefepjpkelfcbaa.Rows.uptoBulkAll l:=by
 induction l with
 | nil=>cases h
 | cons x r ih =>
  simp only [Go.Proofs.Ytefepjpkelfcbaa.Rows.uptoBulkAll]
  rcases List.mem_cons.1 h with e | e
  ·subst e;omega
  ·have:=ih e;omega
theorem bulk_len (l: List (DataW H)): l.length≤Go.Proofs.Ytefepjpkelfcbaa.Rows.uptoBulkAll l:=by
 induction l with
 | nil=>simp
 | cons x r ih =>
  have h1: 1≤Go.Proofs.Ytefepjpkelfcbaa.Rows.uptoBulk x:=by
   cases x with
   | lit l=>cases l <;> simp [Go.Proofs.Ytefepjpkelfcbaa.Rows.uptoBulk]
   | _=>simp [Go.Proofs.Ytefepjpkelfcbaa.Rows.uptoBulk]
  simp only [Go.Proofs.Ytefepjpkelfcbaa.Rows.uptoBulkAll,List.length_cons];omega
theorem bulk_part {d y: DataW H} (h: y ∈(match d with | .agg ps=>ps | _=> [])): Go.Proofs.Ytefepjpkelfcbaa.Rows.uptoBulk y < Go.Proofs.Ytefepjpkelfcbaa.Rows.uptoBulk d:=by
 cases d with
 | agg ps=>change y ∈ ps at h;have:=bulk_mem h;simp only [Go.Proofs.Ytefepjpkelfcbaa.Rows.uptoBulk];omega
 | _=>cases h
theorem open_row: ∀(K: Nat) {n: Nat} {v: Value} {y: DataW H × List MemPlace},Go.Proofs.Ytefepjpkelfcbaa.Rows.uptoBulk y.1≤K→Go.Proofs.Ytefepjpkelfcbaa.Rows.uptoBulk y.1≤1048576→DataW.trod enc prog W 0 (fun _=>true) true n 22 [v]=some y→
  ∃(A: Option Addr) (ts: List Tm) (c: Nat),v=.slice A ts.length c∧RowT (fun b=>W.heap[b]?) A c ts∧ts.length≤1048576:=by
 intro K
 induction K with
 | zero =>
  intro n v y h;have: 1≤Go.Proofs.Ytefepjpkelfcbaa.Rows.uptoBulk y.1:=by
   cases y.1 with
   | lit l=>cases l <;> simp [Go.Proofs.Ytefepjpkelfcbaa.Rows.uptoBulk]
   | _=>simp [Go.Proofs.Ytefepjpkelfcbaa.Rows.uptoBulk]
  omega
 | succ K ih =>
  intro n v y hK hB h
  rcases open_slice T22.und h with ⟨hc,_⟩ |⟨a,len,cap,m,n',D,Pl,hc,_,hl,hm,hmm,hx,hall⟩
  ·simp only [List.cons.injEq,and_true] at hc;exact⟨none, [],0,hc,RowT.nil _,by simp⟩
  ·simp only [List.cons.injEq,and_true] at hc;simp only [if_true] at hmm;subst hmm hx;rw [cells26] at hall;simp only [Go.Proofs.Ytefepjpkelfcbaa.Rows.uptoBulk] at hK hB;have hlen: len≤1048576:=by have:=bulk_len ((List.range len).map D);simp at this;omega
   have key: ∀ i,i < len→∃(t: Tm) (A: Option Addr) (c: Nat) (cs': List Value),cs'=tcells t A c∧W.cells? 0 (a.add (i * 4)) 4=some cs'∧RowT (fun b=>W.heap[b]?) A c t.l:=by
    intro i hi;obtain⟨cs',h1,h2⟩:=hall i (by omega);obtain⟨k,j,s,w,m',z,rfl,h3,h4⟩:=open_tm0 h2;have h5: Go.Proofs.Ytefepjpkelfcbaa.Rows.uptoBulk z.1 < Go.Proofs.Ytefepjpkelfcbaa.Rows.uptoBulk (D i):=bulk_part h4;have h6:=bulk_mem (show D i ∈(List.range len).map D from List.mem_map.2 ⟨i,List.mem_range.2 hi,rfl⟩);obtain⟨A,ts,c,rfl,h7,_⟩:=ih (by omega) (by omega) h3;exact⟨.mk k j s ts,A,c,_,rfl,h1,h7⟩
   classical
   let T: Nat→Tm:=fun i=>if hi: i < len then (key i hi).choose else Tm.zero
   let Af: Nat→Option Addr:=fun i=>if hi: i < len then (key i hi).choose_spec.choose else none
   let cf: Nat→Nat:=fun i=>if hi: i < len then (key i hi).choose_spec.choose_spec.choose else 0
   have hsp: ∀ i,i < len→W.cells? 0 (a.add (i * 4)) 4=some (tcells (T i) (Af i) (cf i))∧RowT (fun b=>W.heap[b]?) (Af i) (cf i) (T i).l:=by
    intro i hi;obtain⟨cs',e1,e2,e3⟩:=(key i hi).choose_spec.choose_spec.choose_spec;simp only [T,Af,cf,dif_pos hi];exact⟨e1 ▸ e2,e3⟩
   have hget: ∀(j: Nat) (t: Tm),((List.range len).map T)[j]? =some t→j < len∧t=T j:=by
    intro j t hj;rw [List.getElem?_map] at hj
    by_cases hlt: j < len
    ·rw [List.getElem?_range hlt] at hj;exact⟨hlt,(Option.some.inj hj).symm⟩
    ·rw [List.getElem?_eq_none (by simpa using Nat.le_of_not_lt hlt)] at hj;cases hj
   refine⟨some a,(List.range len).map T,m,by rw [hc];simp,?_,by simp;omega⟩
   by_cases h0: len=0
   ·subst h0;exact .mk (by simp) (by simp) 0 0 0 #[] (0,0) (fun hn=>absurd rfl hn) (fun _=>none) (fun _=>0) (fun j t hj=>by simp at hj) (fun j t hj=>by simp at hj)
   ·obtain⟨_,hl4,hcell⟩:=World.cells?_some (hsp 0 (by omega)).1;obtain⟨cs,e,fz,ha,hb,_⟩:=cell_at (hcell 0 (by omega));have hb': W.heap[a.block]? =some (.cells cs e fz):=by rw [dB,dB] at hb;exact hb
    have ha': a=⟨a.block,a.off,none⟩:=by
     have:=World.cell?_spot (hcell 0 (by omega))
     cases a;simp [Addr.add] at this;simp [this]
    refine .mk (by simp;omega) (by simp;omega) a.block a.off e cs fz (fun _=>⟨by rw [← ha'],hb'⟩) Af cf (fun j t hj i u hu=>?_) (fun j t hj=>?_)
    ·obtain⟨hlt,rfl⟩:=hget j t hj;obtain⟨_,_,hcell⟩:=World.cells?_some (hsp j hlt).1;have hi4: i < 4:=(List.getElem?_eq_some_iff.1 hu).1;have h8:=hcell i hi4;rw [hu] at h8;obtain⟨cs2,e2,fz2,_,hb2,hu2⟩:=cell_at h8;have hb3: W.heap[a.block]? =some (.cells cs2 e2 fz2):=by rw [dB,dB] at hb2;exact hb2
     rw [hb'] at hb3;injection hb3 with hb3
     injection hb3 with hb3
     subst hb3;rw [add_off,add_off] at hu2;exact hu2
    ·obtain⟨hlt,rfl⟩:=hget j t hj;exact(hsp j hlt).2
theorem inv_all (W: World): Inv W (fun b=>W.heap[b]?) []:=⟨fun e he=>(by cases he),List.Pairwise.nil,fun k o h=>⟨h,d5⟩⟩
theorem below_of {w: World} {H: PHeap} {H': PHeap} {w': World} (h: Step w H [] w' H' []): Below w.heap.size w w':=⟨h.os,h.tape,h.output,h.size,fun k hk=>h.blk k hk d5⟩
end
end Go.Vk.Try
namespace Go.Vk.Try
open Go.ChangeShapes Go.WideShapes Go.ChangeAt Go.RowKit Go.Deep Go.Proofs.Ytefepjpkelfcbaa
theorem own: ownKnob Go.Proofs.Try.prog.godebug=none:=by kernel_rfl
theorem laidOut: laidOutB prog=true:=by kernel_rfl
section
variable {H: Type} {enc: TypeId × Value→H} {W: World}
theorem open_store {v: Value} {d: DataW H} {ps: List MemPlace} (hB: Rows.uptoBulk d≤1048576) (hv: v.formed prog 24=true∨∃ cs,v=.agg cs) (h: DataW.Trod enc prog W 0 (fun _=>true) true 24 v d ps) :
  ∃(A: Option Addr) (ts: List Tm) (c: Nat),v.cells.toList= [.slice A ts.length c]∧RowT (fun b=>W.heap[b]?) A c ts∧ts.length≤1048576:=by
 obtain⟨n,h⟩:=h;obtain⟨y0,m,e,hl,h0⟩:=trod_struct1 T24.und h;rw [show Go.Proofs.Try.prog.cellsOf 24=1 from by kernel_rfl] at hl
 match hcs: v.cells.toList,hl with
 | [c0],_ =>
  rw [hcs] at h0;simp [cells22] at h0;have e1:=(Prod.mk.inj e).1;subst e1;simp only [Rows.uptoBulk,Rows.uptoBulkAll] at hB;obtain⟨A,ts,c,rfl,hr⟩:=open_row (Rows.uptoBulk y0.1) (Nat.le_refl _) (by omega) h0;exact⟨A,ts,c,rfl,hr⟩
theorem trodAll_stays {W': World} (hb: Below W.heap.size W W') (sp: Nat→Bool): ∀(ts: List TypeId) (vs: List Value) (ds: List (DataW H)) (ps: List MemPlace),(∀ t ∈ ts,Go.Proofs.Try.prog.readableRec t=true∧t < Go.Proofs.Try.prog.types.size)→DataW.TrodAll enc prog W 0 (fun _=>true) true ts vs ds ps→(∀ x ∈ ps,x.block < W.heap.size)→(∀ x ∈ ps,sp x.block=true)→
  DataW.TrodAll enc prog W' 0 sp true ts vs ds ps
 | [], [], [],ps,_,h,_,_=>h
 | [],_::_,_,_,_,h,_,_=>h.elim
 | [], [],_::_,_,_,h,_,_=>h.elim
 | _::_, [],_,_,_,h,_,_=>h.elim
 | _::_,_::_, [],_,_,h,_,_=>h.elim
 | t::ts,v::vs,d::ds,ps,ht,h,hl,hs=>by
  obtain⟨p,q,h1,h2,rfl⟩:=h;refine⟨p,q,WideElems.Trod_stays laidOut (ht t List.mem_cons_self).1 (ht t List.mem_cons_self).2 h1 (fun x hx=>hb.same (hl x (List.mem_append_left _ hx))) (fun x hx=>hs x (List.mem_append_left _ hx)),?_,rfl⟩;exact trodAll_stays hb sp ts vs ds q (fun u hu=>ht u (List.mem_cons_of_mem _ hu)) h2 (fun x hx=>hl x (List.mem_append_right _ hx)) (fun x hx=>hs x (List.mem_append_right _ hx))
theorem open_tmV {v: Value} {d: DataW H} {ps: List MemPlace} (hB: Rows.uptoBulk d≤1048576) (hv: Value.okWide prog W .any 0 26 v) (h: DataW.Trod enc prog W 0 (fun _=>true) true 26 v d ps) :
  ∃(t: Tm) (A: Option Addr) (c: Nat),v=tv t A c∧RowT (fun b=>W.heap[b]?) A c t.l:=by
 unfold Value.okWide at hv;rw [T26.und] at hv;obtain⟨cs,rfl,_⟩:=hv;obtain⟨n,h⟩:=h;obtain⟨k,i,s,w,m,y,hcs,h1,h2⟩:=open_tm0 h;have h3: Rows.uptoBulk y.1 < Rows.uptoBulk d:=bulk_part h2;obtain⟨A,ts,c,rfl,h4,_⟩:=open_row (Rows.uptoBulk y.1) (Nat.le_refl _) (by omega) h1;refine⟨.mk k i s ts,A,c,?_,h4⟩;have h5: cs.toList= [.int .i64 k,.int .i64 i,.string s,.slice A ts.length c]:=hcs;rw [← Array.toArray_toList (xs:=cs),h5];rfl
theorem post_old {f: Func} {s: ChangeSpec} {W': World} {args: Array Value} {ds gs: List (DataW H)} {before: List MemPlace} {l: DataW H} {r: Value}
  (hW: DataW.Whole enc prog f.params.toList s.vars false W args.toList ds gs before) (hvs: s.vars= []) (hds:(s.fn H (ds++gs)).args=ds) (hvr:(s.fn H (ds++gs)).vars= [])
  (hres: ∀(b: Nat) (sp: Nat→Bool) (hd: Bool),DataW.TrodAll enc prog W' b sp hd f.resultTypes.toList (r.resultList f.resultTypes.size) (s.fn H (ds++gs)).results [])
  (hb: Below W.heap.size W W') (hts: ∀ t ∈ f.params.toList,Go.Proofs.Try.prog.readableRec t=true∧t < Go.Proofs.Try.prog.types.size)
  (hok: ∀(j: Nat) (t: TypeId) (u: Value),f.resultTypes[j]? =some t→(r.resultList f.resultTypes.size)[j]? =some u→Value.okWide prog W' .any 0 t u) :
  s.post enc prog f false true false false W args r W':=by
 have hlt:=hW.lt;have hW0:=hW;obtain⟨p,q,hA,hV,rfl,hz,hn⟩:=hW0;rw [hvs] at hV;have hargs: ∀ sp: Nat→Bool,(∀ x ∈ p++q,sp x.block=true)→DataW.TrodAll enc prog W' 0 sp true f.params.toList args.toList (s.fn H (ds++gs)).args p:=fun sp hs=>by
  rw [hds];exact trodAll_stays hb sp _ _ _ _ hts hA (fun x hx=>hlt x (List.mem_append_left _ hx)) (fun x hx=>hs x (List.mem_append_left _ hx))
 obtain⟨rfl,rfl⟩:=trodVars_none hV;have hvars: ∀ sp: Nat→Bool,DataW.TrodVars enc prog W' sp s.vars (s.fn H (ds++ [])).vars []:=fun sp=>by rw [hvs,hvr];exact rfl
 have hold: ∀ x ∈ p++ [],(fun b=>decide (b < W.heap.size)) x.block=true:=fun x hx=>by simpa using hlt x hx
 refine⟨ds, [],p++ [], [],p, [],hW,hres _ _ _,hargs _ hold,hvars _,World.keptBut_mono (fun x hx=>⟨hx,.inr (by simpa using hx)⟩) (hb.frame _),fun _=>?_⟩;refine⟨hok,_,_,([]++p)++ [],⟨[]++p, [],trodAll_append (hargs _ (fun _ _=>rfl)) (hres _ _ _),hvars _,rfl,?_,?_⟩,?_⟩
 ·intro b off hp;have hp': MemPlace.cell b off ∈ p++ []:=by simpa using hp
  have h1:=hz b off hp';have h2:=hb.block b (hlt _ hp');unfold World.frozen? at h1 ⊢;rw [h2];exact h1
 ·intro ha;cases ha
 ·intro x hx _;simpa using hx
theorem open_storeV {v: Value} {d: DataW H} {ps: List MemPlace} (hB: Rows.uptoBulk d≤1048576) (hv: Value.okWide prog W .any 0 24 v) (h: DataW.Trod enc prog W 0 (fun _=>true) true 24 v d ps) :
  ∃(A: Option Addr) (ts: List Tm) (c: Nat),v=.agg #[.slice A ts.length c]∧RowT (fun b=>W.heap[b]?) A c ts∧ts.length≤1048576:=by
 unfold Value.okWide at hv;rw [T24.und] at hv;obtain⟨cs,rfl,_⟩:=hv;obtain⟨A,ts,c,h1,h2⟩:=open_store hB (.inr ⟨cs,rfl⟩) h;refine⟨A,ts,c,?_,h2⟩;have: cs.toList= [.slice A ts.length c]:=h1;rw [← Array.toArray_toList (xs:=cs),this]
end
end Go.Vk.Try
namespace Go.Vk.Try
open Go.ChangeShapes Go.WideShapes Go.ChangeAt Go.RowKit Go.Deep Go.Proofs.Ytefepjpkelfcbaa
theorem unifyWholes_contract (H: Type) (enc: TypeId × Value→H) (W: World) (base: Nat) (args: Array Value) (ds gs: List (DataW H)) (before: List MemPlace)
  (hval: ∀(j: Nat) t v,Go.Proofs.Try.f10.params[j]? =some t→args[j]? =some v→Value.okWide prog W .any 0 t v)
  (hW: DataW.Whole enc prog Go.Proofs.Try.f10.params.toList Rows.unifyWholesSpec.vars false W args.toList ds gs before) (hk: Rows.uptoSmall H (ds++gs)=true) :
  Calls prog 10 args W fun e W'=> ∃ v,e=.returned v∧Rows.unifyWholesSpec.post enc prog f10 false true false false W args v W':=by
 have hW':=hW;obtain⟨p,q,hA0,hV,rfl,hfz,hnd⟩:=hW;have hA: DataW.TrodAll enc prog W 0 (fun _=>true) true Go.Proofs.Try.f10.params.toList args.toList ds p:=hA0;rw [params10] at hA hval;obtain⟨v0,v1,v2,v3,d0,d1,d2,d3,p0,p1,p2,p3,rfl,rfl,rfl,g0,g1,g2,g3⟩:=trodAll_four hA;obtain⟨rfl,rfl⟩:=trodVars_none hV;have hb: Rows.uptoBulkAll ([d0,d1,d2,d3]++ [])≤1048576:=of_decide_eq_true hk;simp only [List.append_nil,Rows.uptoBulkAll] at hb;obtain⟨A0,ts0,c0,rfl,h0,hl0⟩:=open_storeV (by omega) (hval 0 24 v0 Y Y) g0;obtain⟨A1,ts1,c1,rfl,h1,hl1⟩:=open_storeV (by omega) (hval 1 24 v1 Y Y) g1;obtain⟨t2,A2,c2,rfl,h2⟩:=open_tmV (by omega) (hval 2 26 v2 Y Y) g2;obtain⟨t3,A3,c3,rfl,h3⟩:=open_tmV (by omega) (hval 3 26 v3 Y Y) g3;refine(c_UnifyWholes (inv_all W) h0 h1 h2 h3 (by omega) (by omega)).mono fun e W' hh=>?_;obtain⟨H',rfl,hS⟩:=hh;exact⟨_,rfl,post_old (l:=d0) hW' Y Y Y (fun _ _ _=>trodAll_mk1 (shut_bool underlying4 _)) (below_of hS) (by rw [params10];intro t ht;simp at ht;rcases ht with rfl | rfl <;> exact⟨by kernel_rfl,of_decide_eq_true (by kernel_rfl)⟩) (ok_one (by kernel_rfl) Y (okWide_bool_mk underlying4 _))⟩
theorem unifyWholes_lifted (os: Os) (started: os.Started) (H: Type) (enc: TypeId × Value→H) (F: Stop.Interp) :
  ReturnsInHanded {} checked os 10 .any ((Rows.OpenSpec.upto Rows.unifyWholesSpec).pre6 enc prog f10 Rows.unifyWholesUptoRow.domain false) (((Rows.OpenSpec.upto Rows.unifyWholesSpec).at F).post enc prog f10 false true false false):=by
 refine returnsInHanded_of_cond (C:=checked) (s:=Rows.OpenSpec.upto Rows.unifyWholesSpec) (k:=Rows.uptoSmall) Y own started (by kernel_rfl) func10
  (OpenSpec.witness (enc:=enc) (C:=checked) (s:=Rows.OpenSpec.upto Rows.unifyWholesSpec) (k:=Rows.uptoSmall) Y false ⟨#[],#[.agg #[.slice none 0 0],.agg #[.slice none 0 0],.agg #[.int .i64 0,.int .i64 0,.string ⟨#[]⟩,.slice none 0 0],.agg #[.int .i64 0,.int .i64 0,.string ⟨#[]⟩,.slice none 0 0]], []⟩ 8 (by kernel_rfl) (by kernel_rfl) (by kernel_rfl)
   (x:=([.agg [.nil],.agg [.nil],.agg [.lit (.int .i64 0),.lit (.int .i64 0),.lit (.string []),.nil],.agg [.lit (.int .i64 0),.lit (.int .i64 0),.lit (.string []),.nil]], [], [])) (by kernel_rfl) Y (by kernel_rfl)) ?_
 intro W base args ds gs before hval hW _ hk _;exact unifyWholes_contract H enc W base args ds gs before hval hW hk
theorem unifyWholes_proved: Rows.UnifyWholesUptoSaid:=
 OpenClaim.holds_of_cond 10 f10 Y Y Y Y Y Y Y ⟨rfl,rfl,rfl,rfl,rfl⟩ rfl Y Y Y Y (by kernel_rfl) func10 (by kernel_rfl)
  (of_decide_eq_true (by kernel_rfl)) (by unfold Func.isWrapper;first |(rw [if_pos (by decide +kernel)];kernel_rfl) |(rw [if_neg (by decide +kernel)];exact⟨rfl,rfl⟩))
  (fun os started H enc _ F=>unifyWholes_lifted os started H enc F)
end Go.Vk.Try
namespace Go.Proofs.Ytefepjpkelfcbaa
theorem unifyWholes_holds: Rows.UnifyWholesUptoSaid:=Go.Vk.Try.unifyWholes_proved
end Go.Proofs.Ytefepjpkelfcbaa

