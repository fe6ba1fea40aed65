/- Part 5 of the proof of heapInPlace_holds. Conditions: none. -/
import Derived.Test.YthblpljakpecdaaC4
set_option linter.unusedVariables false
set_option linter.unusedSimpArgs false
set_option linter.unusedSectionVars false
set_option maxRecDepth 100000
open Go.Proofs.Try
namespace Go.Vk
theorem Fol.word {S: PS} (hr: ∀ z ∈ refsOf S,wordS S z=true) {w x: Wd} (h: Fol S w x) (hw: wordS S w=true): wordS S x=true:=by
 induction h with
 | stop _=>exact hw
 | next h _ ih=>exact ih (nxt_word (hr _ (ch.2 ⟨_,_,(ay h).2.2.2.1,List.mem_cons_self⟩)))
theorem nodes_of {Ts: List Tm} (h: ∀ T ∈ Ts,nodesR T=true): nodesRL Ts=true:=by
 induction Ts with
 | nil=>rw [nodesRL]
 | cons T Ts ih=>rw [nodesRL,h T List.mem_cons_self,ih fun t ht=>h t (List.mem_cons_of_mem _ ht)];rfl
theorem RdE.term {h: HS} {ws bs: List Wd} (hd: DI h ws bs) (hf: FO h.S): ∀(d: Nat) (w: Wd) (T: Tm),wordS h.S w=true->RdE h.S d w T->nodesR T=true:=by
 intro d
 induction d with
 | zero=>intro w T hw hr;cases hr
 | succ d ih =>
  intro w T hw hr
  cases hr with
  | int hF ht =>
   have hx:=hF.word hd.rv hw;unfold wordS at hx;rw [if_pos ht] at hx;simp only [Bool.and_eq_true,decide_eq_true_eq] at hx;rw [nodesR,nodesRL,nodeR_k2];simp [hx.1.2,hx.2]
  | atom hF ht =>
   have hx:=hF.word hd.rv hw;unfold wordS at hx;rw [if_neg j0,if_pos ht] at hx;simp only [Bool.and_eq_true] at hx;rw [nodesR,nodesRL,nodeR_k3,fh hx.2];simp
  | str hF ht =>
   have hx:=hF.word hd.rv hw;unfold wordS at hx;rw [if_neg j0,if_neg j0,if_pos ht] at hx;simp only [Bool.and_eq_true,decide_eq_true_eq] at hx;rw [nodesR,nodesRL,nodeR_k4];simp [hx.2]
  | var hF ht =>
   rename_i x hk
   have h1:=(ay ht).1;have h2:=(ay ht).2.1;have h3:=hd.ok.le;have h4:=vr_ok (n:=100000) (i:=x.n) h1 j0 j0;exact(bN (fq h4)).2.2
  | fn hF ht hl hr =>
   rename_i n s ws Ts
   obtain⟨h1,h2,h3⟩:=hf _ _ _ (ay ht).2.2.2.1;rw [nodesR,nodeR_k5,fh h1,nodes_of fun T hT=>by
    obtain⟨i,hi⟩:=List.getElem?_of_mem hT;have hlt:=(List.getElem?_eq_some_iff.1 hi).1;exact ih _ T (hd.rv _ (ch.2 ⟨_,_,(ay ht).2.2.2.1,List.getElem_mem (l:=ws) (hl ▸ hlt)⟩)) (hr i _ T (List.getElem?_eq_getElem (hl ▸ hlt)) hi)]
   rw [hl] at h2 h3;simp;omega
  | vec hF ht hl hr =>
   rename_i n ws Ts
   have h64: _<=64:=(hd.ok.blk _ _ (ay ht).2.2.2.1).1;rw [nodesR,nodeR_k6,nodes_of fun T hT=>by
    obtain⟨i,hi⟩:=List.getElem?_of_mem hT;have hlt:=(List.getElem?_eq_some_iff.1 hi).1;exact ih _ T (hd.rv _ (ch.2 ⟨_,_,(ay ht).2.2.2.1,List.getElem_mem (l:=ws) (hl ▸ hlt)⟩)) (hr i _ T (List.getElem?_eq_getElem (hl ▸ hlt)) hi)]
   have h64: _<=64:=h64;rw [hl] at h64;simp;omega
theorem gp {f: Int->Wd->Int × Option Tm} {d: Nat} (hf: ∀ l r w T,f l w=(r,some T)->(T.sz: Int)=l - r/\dep T<=d): ∀ {ws: List Wd} {l r: Int} {Ts: List Tm},rdL f l ws=(r,some Ts)->(Tm.szL Ts: Int)=l - r/\depL Ts<=d
 | [],l,r,Ts,h=>by
  rw [rdL] at h;injection h with h1 h
  obtain rfl:=Option.some.inj h;rw [Tm.szL,depL];omega
 | w::ws,l,r,Ts,h=>by
  rw [rdL] at h;dsimp only at h
  cases hq: f l w with
  | mk r1 o =>
   rw [hq] at h
   cases o with
   | none=>cases h
   | some T1 =>
    dsimp only at h
    cases hq2: rdL f r1 ws with
    | mk r2 o2 =>
     rw [hq2] at h
     cases o2 with
     | none=>cases h
     | some Us =>
      injection h with h1 h
      obtain rfl:=Option.some.inj h;have h2:=hf _ _ _ _ hq;have h3:=gp hf hq2;have h1: r2=r:=h1;rw [Tm.szL,depL];omega
theorem gw {S: PS}: ∀(d: Nat) (l r: Int) (w: Wd) (T: Tm),rdS S d l w=(r,some T)->(T.sz: Int)=l - r/\dep T<=d
 | 0,l,r,w,T,h=>by rw [rdS] at h;cases h
 | d+1,l,r,w,T,h=>by
  rw [rdS] at h;dsimp only at h
  split at h
  ·cases h
  ·split at h
   ·injection h with h1 h
    obtain rfl:=Option.some.inj h;rw [eL,dg,Tm.szL,depL];omega
   ·split at h
    ·injection h with h1 h
     obtain rfl:=Option.some.inj h;rw [eL,dg,Tm.szL,depL];omega
    ·split at h
     ·injection h with h1 h
      obtain rfl:=Option.some.inj h;rw [eL,dg,Tm.szL,depL];omega
     ·split at h
      ·cases h
      ·injection h with h1 h
       obtain rfl:=Option.some.inj h;rw [eL,dg,Tm.szL,depL];omega
      ·rename_i s ws hb
       cases hq: rdL (rdS S d) (l - 1) ws with
       | mk r2 o2 =>
        rw [hq] at h
        cases o2 with
        | none=>cases h
        | some Ts =>
         injection h with h1 h
         obtain rfl:=Option.some.inj h;have h2:=gp (d:=d) (fun l r w T hw=>gw d l r w T hw) hq;have h1: r2=r:=h1;rw [eL,dg];omega
      ·rename_i ws hb
       cases hq: rdL (rdS S d) (l - 1) ws with
       | mk r2 o2 =>
        rw [hq] at h
        cases o2 with
        | none=>cases h
        | some Ts =>
         injection h with h1 h
         obtain rfl:=Option.some.inj h;have h2:=gp (d:=d) (fun l r w T hw=>gw d l r w T hw) hq;have h1: r2=r:=h1;rw [eL,dg];omega
theorem eF {h: HS} {ws bs: List Wd} (hd: DI h ws bs) (hf: FO h.S) {w: Wd} {T: Tm} (hr: readS h.S w=(T,0)): isR T=true:=by
 obtain⟨hw,r,h1⟩:=cX.1 hr;have h2:=gw _ _ _ _ _ h1;have h3:=dr h.S 600 4000 w T (by rw [h1]);rw [h1] at h3;have h3: 0<=r/\r < 4000:=h3;exact gk j0 h2.2 (RdE.term hd hf _ _ _ hw (gu _ _ _ _ _ h1))
end Go.Vk
namespace Go.Vk
def Gm (a: Int) (U: Tm) (l: List Tm): Prop:= ∀(i: Nat) u,l[i]? =some u->u=Tm.zero\/u=sbT a U (.mk 1 (i: Int) ⟨#[]⟩ [])
section
variable {a: Int} {U: Tm}
theorem Gm.nil: Gm a U []:=fun i u h=>by simp at h
theorem Gm.pad {l: List Tm} (h: Gm a U l) (k: Nat): Gm a U (l++List.replicate k Tm.zero):=fun i u hi=>by
 rw [List.getElem?_append] at hi
 split at hi
 ·exact h i u hi
 ·rw [List.getElem?_replicate] at hi
  split at hi
  ·exact .inl (Option.some.inj hi).symm
  ·cases hi
theorem nodesR_top {p: Tm} (h: nodesR p=true): nodeR p=true:=by
 rw [bO,Bool.and_eq_true] at h;exact h.1
theorem dJ {p q: Tm} (h: nodesR p=true) {k: Nat} (hq: p.l[k]? =some q): nodesR q=true:=by
 rw [bO,Bool.and_eq_true,bW,List.all_eq_true] at h;exact h.2 q (List.mem_of_getElem? hq)
theorem d6 {p: Tm} (h: nodesR p=true) (hk: p.kind=1): 0<=p.n/\p.n < 100000/\p=.mk 1 ((p.n.toNat: Nat): Int) ⟨#[]⟩ []:=by
 obtain⟨h1,h2,h3,h4⟩:=eD (nodesR_top h) hk;refine⟨h1,h2,?_⟩
 cases p with
 | mk k n s l =>
  have hk: k=1:=hk;have h1: 0<=n:=h1;have h3: s=⟨#[]⟩:=h3;have h4: l= []:=h4;subst hk h3 h4
  show Tm.mk 1 n ⟨#[]⟩ []=Tm.mk 1 ((n.toNat: Nat): Int) ⟨#[]⟩ []
  rw [Int.toNat_of_nonneg (a:=n) h1]
theorem Gm.set {l: List Tm} (h: Gm a U l) {p: Tm} (hn: nodesR p=true) (hk: p.kind=1) {t: Tm} (ht: sbT a U p=t): Gm a U (l.set p.n.toNat t):=fun i u hi=>by
 rw [List.getElem?_set] at hi
 split at hi
 ·rename_i e
  split at hi
  ·obtain rfl:=Option.some.inj hi;refine .inr ?_;rw [<- ht,<- e];exact congrArg _ (d6 hn hk).2.2
  ·cases hi
 ·exact h i u hi
theorem Gm.get {l: List Tm} (h: Gm a U l) {p: Tm} (hn: nodesR p=true) (hk: p.kind=1) {t u: Tm} (ht: sbT a U p=t) (hx: l[p.n.toNat]? =some u) (hf: freeB u=false): eqT u t=true:=by
 rw [dz]
 rcases h _ _ hx with e | e
 ·subst e
  cases hf
 ·rw [e,<- ht];exact congrArg _ (d6 hn hk).2.2.symm
theorem sbL_at: ∀(l: List Tm) (k: Nat),(sbL a U l)[k]? =(l[k]?).map (sbT a U)
 | [],k=>by rw [sbL];simp
 | t::l,0=>by rw [sbL];simp
 | t::l,k+1=>by rw [sbL];simpa using sbL_at l k
theorem sbL_len (l: List Tm):(sbL a U l).length=l.length:=by
 induction l with
 | nil=>rw [sbL]
 | cons t l ih=>rw [sbL,List.length_cons,List.length_cons,ih]
theorem sb_non {p: Tm} (hk: ¬ p.kind=1): sbT a U p=.mk p.kind p.n p.s (sbL a U p.l):=by
 cases p with
 | mk k n s l =>
  have hk: ¬ k=1:=hk;rw [sbT,if_neg (fun h=>hk h.1)];rfl
theorem eV {p t: Tm} (hk: ¬ p.kind=1) (h: sbT a U p=t): p.kind=t.kind/\p.n=t.n/\p.s=t.s/\p.l.length=t.l.length:=by
 rw [sb_non hk] at h;subst h;exact⟨rfl,rfl,rfl,(sbL_len _).symm⟩
theorem gx {p t q u: Tm} (hk: ¬ p.kind=1) (h: sbT a U p=t) {k: Nat} (hq: p.l[k]? =some q) (hu: t.l[k]? =some u): sbT a U q=u:=by
 rw [sb_non hk] at h;subst h;have h1:(sbL a U p.l)[k]? =some u:=hu;rw [sbL_at,hq] at h1;exact Option.some.inj h1
theorem zeros_map (k: Nat) (xs: List TV) (x: TV) (l: List Tm) (h: xs.map TV.t=l++List.replicate k Tm.zero) (hx: x.t=Tm.zero):(xs++ [x]).map TV.t=l++List.replicate (k+1) Tm.zero:=by
 rw [List.map_append,h,List.replicate_succ',List.append_assoc];simp [hx]
end
theorem nodeR_ss {t: Tm} (h: nodeR t=true): t.s.size<=2000000:=by
 unfold nodeR at h
 repeat' split at h
 all_goals first |(cases h;done) | simp only [Bool.and_eq_true,decide_eq_true_eq,nameB] at h
 ·rw [h.1.2];decide
 ·rw [h.1.2];decide
 ·omega
 ·omega
 ·omega
 ·rw [h.1.2];decide
theorem nodesR_str: ∀ t: Tm,nodesR t=true->strB t=true:=by
 refine Tm.ind fun t ih h=>?_;have h1:=nodeR_ss (nodesR_top h);have h2: strBL t.l=true:=by
  rw [eG,List.all_eq_true];intro u hu;obtain⟨i,hi⟩:=List.getElem?_of_mem hu;exact ih i u hi (dJ h hi)
 cases t with
 | mk k n s l =>
  rw [strB,Bool.and_eq_true,decide_eq_true_eq];exact⟨h1,h2⟩
theorem isR_str {t: Tm} (h: isR t=true): strB t=true:=nodesR_str _ (bN h).2.2
theorem isR_sz {t: Tm} (h: isR t=true): t.sz<=4000:=(bN h).1
theorem occ_neg: ∀ t: Tm,nodesR t=true->occV (-1) t=false:=by
 refine Tm.ind fun t ih h=>?_;rw [d8,Bool.or_eq_false_iff]
 constructor
 ·by_cases hk: t.kind=1
  ·have h1:=(d6 h hk).1;simp;intro _;omega
  ·simp [hk]
 ·rw [List.any_eq_false];intro u hu;obtain⟨i,hi⟩:=List.getElem?_of_mem hu;simp [ih i u hi (dJ h hi)]
theorem sb_id {T: Tm} (h: isR T=true): ∃(a: Int) (U: Tm),sbT a U T=T:=⟨-1,Tm.zero,fA T (occ_neg T (bN h).2.2)⟩
theorem read_err {S: PS} {w: Wd} (h: wordS S w=true):(readS S w).2=0\/(readS S w).2=2:=by
 unfold readS;rw [if_neg (by rw [h];simp)]
 split
 ·exact .inl J
 ·exact .inr J
def flipW (w: Wd): Wd:=⟨w.tag,w.n,w.s,!w.one&&decide (4<=w.tag)⟩
theorem word_flip {S S': PS} {w: Wd} (h: wordS S w=true) (h': wordS S' (flipW w)=true): wordS S' w=true:=by
 unfold wordS at h h' ⊢
 by_cases h1: w.tag=1
 ·rw [if_pos h1] at h ⊢;exact h
 ·by_cases h2: w.tag=2
  ·rw [if_neg h1,if_pos h2] at h ⊢;exact h
  ·by_cases h3: w.tag=3
   ·rw [if_neg h1,if_neg h2,if_pos h3] at h ⊢;exact h
   ·rw [if_neg h1,if_neg h2,if_neg h3] at ⊢;rw [if_neg (show ¬(flipW w).tag=1 from h1),if_neg (show ¬(flipW w).tag=2 from h2),if_neg (show ¬(flipW w).tag=3 from h3)] at h';exact h'
def reB (w: Wd) (x: StV): Bool:=((decide (ixZ x.kd 9=5)||decide (ixZ x.kd 9=6))&&w.one)&&(decide (w.tag=5)||decide (w.tag=6))
section
variable {x: StV} {h h': HS} {ws ws' bs bs': List Wd} {w: Wd}
theorem DI.word (hd: DI h ws bs) (hw: w ∈ ws++bs): wordS h.S w=true:=by
 rcases List.mem_append.1 hw with hw | hw
 ·exact hd.wv w hw
 ·exact cB (hd.bv w hw).2.2
theorem DI.still (hd: DI h ws bs) (hd': DI h' ws' bs') (hw: w ∈ ws++bs) (hn: w ∈ ws'++bs'\/flipW w ∈ ws'++bs'): wordS h'.S w=true:=by
 rcases hn with hn | hn
 ·exact hd'.word hn
 ·exact word_flip (hd.word hw) (hd'.word hn)
theorem SR.binds (hs: SR x (h,ws,bs) (h',ws',bs')) (hd: DI h ws bs) (hf: FO h.S) (hw: w ∈ ws++bs) (hk: ixZ x.kd 9=3) (h1:(readS h.S w).2=0) (h2:(readS h'.S w).2=0): ∃(a: Int) (U: Tm),sbT a U (readS h.S w).1=(readS h'.S w).1:=by
 rcases hs.inst hd hw j0 (Prod.ext rfl h1) (Prod.ext rfl h2) with h3 |⟨_,a,U,_,h3,_⟩
 ·rw [show (readS h'.S w).fst=(readS h.S w).fst from h3];exact sb_id (eF hd hf (Prod.ext J h1))
 ·exact⟨a,U,h3.symm⟩
theorem SR.keeps (hs: SR x (h,ws,bs) (h',ws',bs')) (hd: DI h ws bs) (hw: w ∈ ws++bs) (hk: ¬ ixZ x.kd 9=3) (h1:(readS h.S w).2=0) (h2:(readS h'.S w).2=0) (hr: reB w x=false): eqT (readS h'.S w).1 (readS h.S w).1=true:=by
 rcases hs.inst hd hw (fun⟨h3,h4,h5⟩=>by
  unfold reB at hr;rw [h4] at hr
  rcases h3 with h3 | h3 <;> rcases h5 with h5 | h5 <;> simp [h3,h5] at hr) (Prod.ext J h1) (Prod.ext J h2) with h3 |⟨h3,_⟩
 ·exact(dz _ _).2 h3
 ·exact absurd h3 hk
end
theorem reads_snoc {f: Wd->Tm} {ws: List Wd} {j: Nat} {w: Wd} {xs: List TV} {x: TV} (h: xs.map TV.t=(ws.take j).map f) (hw: ws[j]? =some w) (hx: x.t=f w):(xs++ [x]).map TV.t=(ws.take (j+1)).map f:=by
 rw [List.map_append,h,List.take_add_one,hw,List.map_append];simp [hx]
theorem oks_snoc {g: Wd->Int} {ws: List Wd} {j: Nat} {w: Wd} (h: ∀ u ∈ ws.take j,g u=0) (hw: ws[j]? =some w) (h0: g w=0): ∀ u ∈ ws.take (j+1),g u=0:=fun u hu=>by
 rw [List.take_add_one,hw,List.mem_append] at hu
 rcases hu with hu | hu
 ·exact h u hu
 ·simp at hu;rw [hu];exact h0
theorem fy {f: Wd->Tm} {ws: List Wd} {j: Nat} {w: Wd} {xs: List TV} {x: TV} (h: xs.map TV.t=ws.map f) (hw: ws[j]? =some w) (hx: xs[j]? =some x): x.t=f w:=by
 have h1:=congrArg (fun l=>l[j]?) h;simp only [List.getElem?_map,hw,hx] at h1;exact Option.some.inj h1
theorem not_neither {p q: Prop} [Decidable p] [Decidable q] (h:(!decide p&&!decide q)=false): p\/q:=by
 by_cases hp: p
 ·exact .inl hp
 ·by_cases hq: q
  ·exact .inr hq
  ·simp [hp,hq] at h
end Go.Vk
namespace Go.Vk.Try
open Go.RowKit
set_option maxHeartbeats 4000000 in
theorem c_match {av: Int} {U: Tm}: ∀(p: Tm) (A: Option Addr) (c: Nat) (t: Tm) (A2: Option Addr) (c2: Nat) (xs: List TV) (Al: Option Addr) (cl: Nat) (enl: Ent) (w0: World) (H: PHeap),Inv w0 H [enl]->RowT H A c p.l->RowT H A2 c2 t.l->nodesR p=true->xs.length<=100000->Row (.slice Al xs.length cl) enl 46 4 xs.length (flat xs)->AllR H xs->Calls prog 85 #[(tv p A c),(tv t A2 c2),(.slice Al xs.length cl)] w0 (fun e w'=> ∃ H' A' c' en' xs' ok,e=.returned (.tuple #[.slice A' xs'.length c',.bool ok])/\Row (.slice A' xs'.length c') en' 46 4 xs'.length (flat xs')/\AllR H' xs'/\xs'.length<=100000/\(sbT av U p=t->Gm av U (xs.map TV.t)->ok=true/\Gm av U (xs'.map TV.t))/\Step w0 H [enl] w' H' [en']):=by
 refine Tm.ind fun p ih=>?_;intro A c t A2 c2 xs Al cl enl w0 H df hr an bh a9 b1 b0;have C:=Step.refl df;have eh:=hr.len;have ei:=an.len;refine enter [(tv p A c),(tv t A2 c2),(.slice Al xs.length cl)] func85 J ntmps85 J fun a q=>?_;refine wp_seq (ab (lin J (aP (cs:=(tA p A c)) C q J J J fun a8 a w C q=>?_)));refine lin J (aP (cs:=(tA t A2 c2)) C q J J J fun ay a w C q=>?_);refine Ls J q fun a q=>?_;refine Ls J q fun a q=>?_;refine wpList_nil (aa (wp_seq (wp_seq (ab (lin J (ac (f:=0) (o2:=0) T46 T3 J J J J q J J fun a q=>?_))))));refine lin J (af (v:=(iV p.kind)) T3 J q J (C.blkL 1 J) J J fun a q=>?_);refine lin J (aW (i:=p.kind) (j:=1) q J J J fun a q=>?_);let bl:=(eO ay 46 (tA t A2 c2));refine wpList_nil (aa (al (t:=12) q J (fun bf q=>?_) (fun bf q=>?_)))
 ·have a7:=bf;obtain⟨en,eo, -⟩:=d6 bh bf;refine ap q J (wp_seq (wp_block (a6 (fun c5 a w=> ∃(ba: PHeap),∃(k: Nat),∃(F: List TV),∃(a3: Ent),∃(T: Option Addr),∃(X: Nat),Le H ba/\c5=(p.n+1).toNat - (xs.length+k)/\Has [] a 98 [(2,(.slice T F.length X)),(3,(pB a8)),(4,(pB ay))]/\Step w0 H [enl] w ba [bl,(eO a8 46 (tA p A c)),a3]/\(Row (.slice T F.length X) a3 46 4 F.length (flat F))/\(AllR ba F)/\(F.map TV.t=xs.map TV.t++List.replicate k Tm.zero)/\(F.length=xs.length+k)/\(k=0\/((xs.length+k: Nat): Int)<=p.n+1)) _ ⟨H,0,xs,enl,Al,cl,Le.refl _,rfl,q.pk J,C,(by simpa using b1),b0,j3,j0,j0⟩ ?_)));intro eq a w bv;obtain⟨ba,k,F,a3,T,X,cr,ek,q,C,a4,V,bw,dt,dn⟩:=bv;have an:=an.mono cr;refine wp_seq (wp_seq (ab (Lm J q fun a q=>?_)));refine lin J (aJ T44.und q J J fun a q=>?_);refine lin J (ac (f:=1) (o2:=1) T46 T3 J J J J q J J fun a q=>?_);refine lin J (af (v:=(iV p.n)) T3 J q J (C.blkL 1 J) J J fun a q=>?_);refine lin J (dG (i:=((F.length: Nat): Int)) (j:=p.n) q J J J fun a q=>?_);refine wpList_nil (aa (al (t:=17) q J (fun d8 q=>?_) (fun d8 q=>?_)))
  ·refine ap q J (wp_skip (aa (wp_block (ab (Lm J q fun a q=>?_)))));refine lin J (aI (vs:= []) (cells:=lZ) T46 PL46 q (q.evp J) J J fun a q=>?_);refine lin J (aY (vs:= [(0,vZ)]) (cells:=lZ) T44.und T46 C q (q.evp J) J J J J fun cd a w C q=>?_);obtain⟨c9,C,ct,cp⟩:=C.give;have V:=V.mono ct;have em: RowT c9 (some ⟨cd,0,none⟩) 1 [tZ]:=RowT.of_lit ([⟨tZ,none,0⟩]: List TV) cp (AllR.cons (RowT.nil _) (AllR.nil _)) j3 J;have C:=C.front 2 J;refine lin J (aK (news:=(flat ([⟨tZ,none,0⟩]: List TV))) (xs:=(flat F)) T44.und T46 J J C a4 q J J J (fun _=>⟨cd,0,_,_,_,rfl,C.blkH cp,ah J⟩) (cQ J) j0 J J fun er d4 a w b6 C q=>?_);rw [<- cm] at b6;obtain⟨bi,bn,rfl⟩:=b6.slice;have cu:(F.length+1)=(F++([⟨tZ,none,0⟩]: List TV)).length:=by have G:=b6.1;rw [bG] at G;omega
   rw [show Value.slice bi (F.length+1) bn=Value.slice bi (F++([⟨tZ,none,0⟩]: List TV)).length bn from by rw [cu]] at q;rw [cu] at b6;refine Ls J q fun a q=>?_;refine wpList_nil (aq (aa (?_)));have C:=C.fd [3,3] J;exact⟨(p.n+1).toNat - (xs.length+(k+1)),by omega,c9,(k+1),(F++([⟨tZ,none,0⟩]: List TV)),d4,bi,bn,(cr.trans (ct)),rfl,q.pk J,C,(by simpa using b6),(AllR.append V (AllR.cons (RowT.nil _) (AllR.nil _))),(zeros_map _ _ _ _ bw J),(by rw [List.length_append,dt];simp;omega),j0⟩
  ·refine ai q J (wp_exit (az (az (aO (aa (wp_seq (wp_seq (ab (Lm J q fun a q=>?_)))))))));refine lin J (ac (f:=1) (o2:=1) T46 T3 J J J J q J J fun a q=>?_);refine lin J (af (v:=(iV p.n)) T3 J q J (C.blkL 1 J) J J fun a q=>?_);obtain⟨c6,bm,e2,d1,cv,dw,dl,dh⟩:=a4.get (j:=(Int.toNat p.n)) j0;have d9:(T: Option Addr)=some ⟨bm,0,none⟩:=by injection dw
   have du:=V _ (List.mem_of_getElem? cv);refine lin J (aD (b:=bm) (o:=0) (j:=(Int.toNat p.n)) T44.und T46 d9 q J J j0 j0 J fun a q=>?_);refine lin J (am (vs:=(tL (c6.t) c6.A c6.c)) T46 J q J (C.blkL 2 (b:=bm) (o:=.cells d1 46 (0,0)) (by rw [<- dl];rfl)) J dh J fun a q=>?_);have dp:=c_R1Free C.inv.nil du;refine lin J (Cs func104 q J (dp) C fun a w q C=>?_);refine wpList_nil (aa (ar (t:=27) q J (fun cg q=>?_) (fun cg q=>?_)))
   ·refine ap q J (wp_seq (ab (Lm J q fun a q=>?_)));refine lin J (ac (f:=1) (o2:=1) T46 T3 J J J J q J J fun a q=>?_);refine lin J (af (v:=(iV p.n)) T3 J q J (C.blkL 1 J) J J fun a q=>?_);refine lin J (am (vs:=(tL t A2 c2)) T46 J q J (C.blkL 0 J) J (ah J) J fun a q=>?_);obtain⟨es,ca,e3,e7,dz,dx,ef,ee⟩:=a4.get (j:=(Int.toNat p.n)) j0;have cn:(T: Option Addr)=some ⟨ca,0,none⟩:=by injection dx
    have el:=V _ (List.mem_of_getElem? dz);refine lin J (aD (b:=ca) (o:=0) (j:=(Int.toNat p.n)) T44.und T46 cn q J J j0 j0 J fun a q=>?_);refine lin J (dH (j:=(Int.toNat p.n)) T46 C (i:=2) J a4 J cn j0 J q J J J J fun ea a w co eg C q=>?_);rw [show (Value.cells _).toList=TV.cells ⟨t,A2,c2⟩ from rfl,splice_flat j5] at co;refine wpList_nil (aa (wp_seq (ab (Lm J q fun a q=>?_))));refine Ls J q fun a q=>?_;refine Ls J q fun a q=>?_;refine wpList_nil (aa (wp_ret (ag (ag (ret2 J q J J ?_)))));have C:=C.fd [0,0] J;exact⟨_,_,_,_,(F.set (Int.toNat p.n) ⟨t,A2,c2⟩),_,by rw [List.length_set],by rw [List.length_set];exact co,(AllR.set (x:=⟨t,A2,c2⟩) V an),(by rw [List.length_set];omega),(fun G a1=>⟨rfl,by rw [List.map_set];exact Gm.set (by rw [bw];exact a1.pad _) bh a7 G⟩),C⟩
   ·refine ai q J (wp_skip (aa (wp_seq ?_)));have dg:=C;obtain⟨au,bc,e4,d2,c1,dy,dm,di⟩:=a4.get (j:=(Int.toNat p.n)) j0;have da:(T: Option Addr)=some ⟨bc,0,none⟩:=by injection dy
    have dv:=V _ (List.mem_of_getElem? c1);refine bH bD [FcV (.slice T F.length X),FcV (.slice T F.length X),FcV (.pointer (some ⟨a8,1,none⟩)),FcV (iV p.n),FcV (.pointer (some ⟨bc,0+(Int.toNat p.n) * 4,none⟩)),FcV (tv (au.t) au.A au.c),FcV (tv t A2 c2),FcV (.bool (eqT au.t t)),FcV (.slice T F.length X),FcV (.bool (eqT au.t t))] (N:=98) (E:= [(2,(.slice T F.length X)),(3,(pB a8)),(4,(pB ay))]) mixed J Mq C (q.pk J) (.c4 ?_ ?_ ?_ ?_ (.c4 ?_ ?_ ?_ ?_ (.c2 ?_ ?_ (.nil)))) (fun a w e1 ds C q aw=>?_)
    ·refine Qz J fun a w C q I=>?_;exact ak q J J fun a q=>qe q C
    ·refine Qz J fun a w C q I=>?_;exact ak q J J fun a q=>qe q C
    ·refine Qz J fun a w C q I=>?_;exact ac (f:=1) (o2:=1) T46 T3 J J J J q J J fun a q=>qe q C
    ·refine Qz1 2 J fun a w C q I=>?_;exact af (v:=(iV p.n)) T3 J q J (C.blkL 1 J) J J fun a q=>qe q C
    ·refine Qz1 1 J fun a w C q I=>?_;obtain⟨_,q,rfl⟩:=I.g q 3 J;exact aD (b:=bc) (o:=0) (j:=(Int.toNat p.n)) T44.und T46 da q J J j0 j0 J fun a q=>qe q C
    ·refine Qz1 4 J fun a w C q I=>?_;exact am (vs:=(tL (au.t) au.A au.c)) T46 J q J (C.blkL 2 (b:=bc) (o:=.cells d2 46 (0,0)) (by rw [<- dm];rfl)) J di J fun a q=>qe q C
    ·refine Qz J fun a w C q I=>?_;exact am (vs:=(tL t A2 c2)) T46 J q J (C.blkL 0 J) J (ah J) J fun a q=>qe q C
    ·refine Qz1 5 J fun a w C q I=>?_;obtain⟨_,q,rfl⟩:=I.g q 6 J;have dq:=ge _ _ _ _ _ _ _ _ dv an C.inv.nil;exact Cs func44 q J (dq) C fun a w q C=>qe q C
    ·refine Qz1 0 J fun a w C q I=>?_;exact aG q J J fun a q=>qe q C
    ·refine Qz1 7 J fun a w C q I=>?_;exact aG q J J fun a q=>qe q C
    subst ds;obtain⟨_,q,rfl⟩:=Dd q aw 8 J;obtain⟨_,q,rfl⟩:=Dd q aw 9 J;refine aa (wp_ret (ag (ret2 J q J J ?_)));have C:=C.fd [0,0] J;exact⟨_,_,_,_,F,_,rfl,a4,V,j0,(fun G a1=>have cq: Gm av U (F.map TV.t):=bw.symm ▸ a1.pad k
     ⟨cq.get bh a7 G (by rw [List.getElem?_map,c1];rfl) (by have d3:=Option.some.inj (c1.symm.trans cv);rw [d3];simpa using cg),cq⟩),C⟩
 ·have a7: ¬ p.kind=1:=bf;refine ai q J (wp_skip (aa (wp_seq (wp_seq (ab (lin J (ac (f:=0) (o2:=0) T46 T3 J J J J q J J fun a q=>?_)))))));refine lin J (af (v:=(iV p.kind)) T3 J q J (C.blkL 1 J) J J fun a q=>?_);refine lin J (ac (f:=0) (o2:=0) T46 T3 J J J J q J J fun a q=>?_);refine lin J (af (v:=(iV t.kind)) T3 J q J (C.blkL 0 J) J J fun a q=>?_);refine lin J (bC (i:=p.kind) (j:=t.kind) q J J J fun a q=>?_);refine Lm J q fun a q=>?_;refine aM (t:=47) q J (fun ch q=>?_) (fun ch q=>?_)
  ·refine Lf J q J J fun a q=>?_;refine Lf J q J J fun a q=>?_;refine Lf J q J J fun a q=>?_;refine Lf J q J J fun a q=>?_;refine Lf J q J J fun a q=>?_;refine lin J (ao q J J J fun a q=>?_);refine Lm J q fun a q=>?_;refine Lf J q J J fun a q=>?_;refine Lf J q J J fun a q=>?_;refine Lf J q J J fun a q=>?_;refine Lf J q J J fun a q=>?_;refine Lf J q J J fun a q=>?_;refine lin J (ao q J J J fun a q=>?_);refine Lm J q fun a q=>?_;refine Lf J q J J fun a q=>?_;refine Lf J q J J fun a q=>?_;refine Lf J q J J fun a q=>?_;refine Lf J q J J fun a q=>?_;refine Lf J q J J fun a q=>?_;refine Lf J q J J fun a q=>?_;refine Lf J q J J fun a q=>?_;refine lin J (ao q J J J fun a q=>?_);refine wpList_nil (aa (ap q J (wp_seq (ab (Lm J q fun a q=>?_)))));refine Ls J q fun a q=>?_;refine Ls J q fun a q=>?_;refine wpList_nil (aa (wp_ret (ag (ret2 J q J J ?_))));have C:=C.fd [0,0] J;exact⟨_,_,_,_,xs,_,rfl,b1,b0,a9,(fun G _=>absurd G (fun G=>by have O:=eV a7 G;simp [O.1,O.2.1,O.2.2.1,O.2.2.2] at ch)),C⟩
  ·refine ad J q J J J (ac (f:=1) (o2:=1) T46 T3 J J J J q J J fun a q=>?_);refine ad J q J J J (af (v:=(iV p.n)) T3 J q J (C.blkL 1 J) J J fun a q=>?_);refine ad J q J J J (ac (f:=1) (o2:=1) T46 T3 J J J J q J J fun a q=>?_);refine ad J q J J J (af (v:=(iV t.n)) T3 J q J (C.blkL 0 J) J J fun a q=>?_);refine ad J q J J J (bC (i:=p.n) (j:=t.n) q J J J fun a q=>?_);refine lin J (aj q J J J fun a q=>?_);refine Lm J q fun a q=>?_;refine aM (t:=54) q J (fun ci q=>?_) (fun ci q=>?_)
   ·refine Lf J q J J fun a q=>?_;refine Lf J q J J fun a q=>?_;refine Lf J q J J fun a q=>?_;refine Lf J q J J fun a q=>?_;refine Lf J q J J fun a q=>?_;refine lin J (ao q J J J fun a q=>?_);refine Lm J q fun a q=>?_;refine Lf J q J J fun a q=>?_;refine Lf J q J J fun a q=>?_;refine Lf J q J J fun a q=>?_;refine Lf J q J J fun a q=>?_;refine Lf J q J J fun a q=>?_;refine Lf J q J J fun a q=>?_;refine Lf J q J J fun a q=>?_;refine lin J (ao q J J J fun a q=>?_);refine wpList_nil (aa (ap q J (wp_seq (ab (Lm J q fun a q=>?_)))));refine Ls J q fun a q=>?_;refine Ls J q fun a q=>?_;refine wpList_nil (aa (wp_ret (ag (ret2 J q J J ?_))));have C:=C.fd [0,0] J;exact⟨_,_,_,_,xs,_,rfl,b1,b0,a9,(fun G _=>absurd G (fun G=>by have O:=eV a7 G;simp [O.1,O.2.1,O.2.2.1,O.2.2.2] at ci)),C⟩
   ·refine ad J q J J J (ac (f:=2) (o2:=2) T46 T9 J J J J q J J fun a q=>?_);refine ad J q J J J (af (v:=(.string p.s)) T9 J q J (C.blkL 1 J) J J fun a q=>?_);refine ad J q J J J (ac (f:=2) (o2:=2) T46 T9 J J J J q J J fun a q=>?_);refine ad J q J J J (af (v:=(.string t.s)) T9 J q J (C.blkL 0 J) J J fun a q=>?_);refine ad J q J J J (gv q J J J fun a q=>?_);refine lin J (aj q J J J fun a q=>?_);refine Lm J q fun a q=>?_;refine aM (t:=61) q J (fun cj q=>?_) (fun cj q=>?_)
    ·refine Lf J q J J fun a q=>?_;refine Lf J q J J fun a q=>?_;refine Lf J q J J fun a q=>?_;refine Lf J q J J fun a q=>?_;refine Lf J q J J fun a q=>?_;refine Lf J q J J fun a q=>?_;refine Lf J q J J fun a q=>?_;refine lin J (ao q J J J fun a q=>?_);refine wpList_nil (aa (ap q J (wp_seq (ab (Lm J q fun a q=>?_)))));refine Ls J q fun a q=>?_;refine Ls J q fun a q=>?_;refine wpList_nil (aa (wp_ret (ag (ret2 J q J J ?_))));have C:=C.fd [0,0] J;exact⟨_,_,_,_,xs,_,rfl,b1,b0,a9,(fun G _=>absurd G (fun G=>by have O:=eV a7 G;simp [O.1,O.2.1,O.2.2.1,O.2.2.2] at cj)),C⟩
    ·refine ad J q J J J (ac (f:=3) (o2:=3) T46 T44 J J J J q J J fun a q=>?_);refine ad J q J J J (af (v:=(.slice A p.l.length c)) T44 J q J (C.blkL 1 J) J J fun a q=>?_);refine ad J q J J J (aJ T44.und q J J fun a q=>?_);refine ad J q J J J (ac (f:=3) (o2:=3) T46 T44 J J J J q J J fun a q=>?_);refine ad J q J J J (af (v:=(.slice A2 t.l.length c2)) T44 J q J (C.blkL 0 J) J J fun a q=>?_);refine ad J q J J J (aJ T44.und q J J fun a q=>?_);refine ad J q J J J (bC (i:=((p.l.length: Nat): Int)) (j:=((t.l.length: Nat): Int)) q J J J fun a q=>?_);refine lin J (aj q J J J fun a q=>?_);refine wpList_nil (aa (aM (t:=69) q J (fun ck q=>?_) (fun ck q=>?_)))
     ·refine ap q J (wp_seq (ab (Lm J q fun a q=>?_)));refine Ls J q fun a q=>?_;refine Ls J q fun a q=>?_;refine wpList_nil (aa (wp_ret (ag (ret2 J q J J ?_))));have C:=C.fd [0,0] J;exact⟨_,_,_,_,xs,_,rfl,b1,b0,a9,(fun G _=>absurd G (fun G=>by have O:=eV a7 G;simp [O.1,O.2.1,O.2.2.1,O.2.2.2] at ck)),C⟩
     ·refine ai q J (wp_skip (aa (wp_seq (ab (Ls J q fun a q=>?_)))));refine wpList_nil (aa (wp_seq (wp_seq (ab (Ls J q fun a q=>?_)))));refine wpList_nil (aa (wp_block (a6 (fun c5 a w=> ∃(ax: PHeap),∃(k: Nat),∃(ok: Bool),∃(F: List TV),∃(a3: Ent),∃(T: Option Addr),∃(X: Nat),Le H ax/\c5=p.l.length - k/\Has [] a 98 [(2,(.slice T F.length X)),(3,(pB a8)),(4,(pB ay)),(8,(.bool ok)),(9,(iV ((k: Nat): Int)))]/\Step w0 H [enl] w ax [bl,(eO a8 46 (tA p A c)),a3]/\(Row (.slice T F.length X) a3 46 4 F.length (flat F))/\(AllR ax F)/\(F.length<=100000)/\(sbT av U p=t->Gm av U (xs.map TV.t)->ok=true/\Gm av U (F.map TV.t))/\(k<=p.l.length)) _ ⟨H,0,true,xs,enl,Al,cl,Le.refl _,rfl,q.pk J,C,(by simpa using b1),b0,a9,(fun _ a1=>⟨rfl,a1⟩),j0⟩ ?_)));intro ep a w bv;obtain⟨ax,k,ok,F,a3,T,X,b7,ej,q,C,a4,V,a9,hG,dn⟩:=bv;have hr:=hr.mono b7;have an:=an.mono b7;refine wp_seq (wp_seq (ab (Lm J q fun a q=>?_)));refine lin J (ac (f:=3) (o2:=3) T46 T44 J J J J q J J fun a q=>?_);refine lin J (af (v:=(.slice A p.l.length c)) T44 J q J (C.blkL 1 J) J J fun a q=>?_);refine lin J (aJ T44.und q J J fun a q=>?_);refine lin J (bj (i:=((k: Nat): Int)) (j:=((p.l.length: Nat): Int)) q J J J fun a q=>?_);refine Lm J q fun a q=>?_;refine al (t:=76) q J (fun d5 q=>?_) (fun d5 q=>?_)
      ·refine ad J q J J J (ak q J J fun a q=>?_);refine lin J (ao q J J J fun a q=>?_);refine wpList_nil (aa (ar (t:=78) q J (fun d7 q=>?_) (fun d7 q=>?_)))
       ·refine ap q J (wp_skip (aa (wp_seq (wp_block ?_))));obtain⟨cy,cb,cw,e8,e5,ec,c7,ce,b8,db,br,dj,bx⟩:=hr.get (j:=k) j0;obtain⟨cz,cc,cx,e9,e6,ed,c8,cf,c0,dc,bt,dk,bz⟩:=an.get (j:=k) j0;have dg:=C;refine As.c_draw_head (ini:=(As.il [])) (sup:=(As.sl [])) (als:= []) (s0:=⟨ax,fun _=>none⟩) (L:= [bl,(eO a8 46 (tA p A c)),a3]) (N:=98) (E:= [(2,(.slice T F.length X)),(3,(pB a8)),(4,(pB ay)),(9,(iV ((k: Nat): Int)))]) 11 [FcV (.pointer (some ⟨a8,3,none⟩)),FcV (.slice A p.l.length c),FcV (iV ((k: Nat): Int)),FcV (.pointer (some ⟨cb,cw+k * 4,none⟩)),FcV (tv cy c7 ce),FcV (.pointer (some ⟨ay,3,none⟩)),FcV (.slice A2 t.l.length c2),FcV (iV ((k: Nat): Int)),FcV (.pointer (some ⟨cc,cx+k * 4,none⟩)),FcV (tv cz c8 cf),FcV (.slice T F.length X)] mixed J J J (As.M1 (As.M1 (As.M1 (As.M1 (As.M1 (As.M1 (As.M1 (As.M1 (As.M1 (As.M1 (As.M1 (As.Monos.nil)))))))))))) (fun _=>rfl) C (q.pk J) (As.QuietsI.c4 ?_ ?_ ?_ ?_ (As.QuietsI.c4 ?_ ?_ ?_ ?_ (As.QuietsI.c2 ?_ ?_ (As.QuietsI.cons ?_ (As.QuietsI.nil))))) (fun eb a w e0 Z C q aw=>?_)
        ·refine As.Qx J fun a w a2 a0 Y a5 C q I Z=>?_;have M:=C;exact ac (f:=3) (o2:=3) T46 T44 J J J J q J J fun a q=>As.ql q M
        ·refine As.Qx1 0 J fun a w a2 a0 Y a5 C q I Z=>?_;have M:=C;have C:=Step.dropN _ _ C;exact af (v:=(.slice A p.l.length c)) T44 J q J (C.blkL 1 J) J J fun a q=>As.ql q M
        ·refine As.Qx J fun a w a2 a0 Y a5 C q I Z=>?_;have M:=C;exact ak q J J fun a q=>As.ql q M
        ·refine As.Qx1 1 J fun a w a2 a0 Y a5 C q I Z=>?_;obtain⟨_,q,rfl⟩:=I.g q 2 J;have M:=C;exact aD (b:=cb) (o:=cw) (j:=k) T44.und T46 db q J J j0 j0 J fun a q=>As.ql q M
        ·refine As.Qx1 3 J fun a w a2 a0 Y a5 C q I Z=>?_;have br:=Y _ _ br;have M:=C;have C:=Step.dropN _ _ C;exact am (vs:=(tL cy c7 ce)) T46 J q J (C.blkH br) J dj J fun a q=>As.ql q M
        ·refine As.Qx J fun a w a2 a0 Y a5 C q I Z=>?_;have M:=C;exact ac (f:=3) (o2:=3) T46 T44 J J J J q J J fun a q=>As.ql q M
        ·refine As.Qx1 5 J fun a w a2 a0 Y a5 C q I Z=>?_;have M:=C;have C:=Step.dropN _ _ C;exact af (v:=(.slice A2 t.l.length c2)) T44 J q J (C.blkL 0 J) J J fun a q=>As.ql q M
        ·refine As.Qx J fun a w a2 a0 Y a5 C q I Z=>?_;have M:=C;exact ak q J J fun a q=>As.ql q M
        ·refine As.Qx1 6 J fun a w a2 a0 Y a5 C q I Z=>?_;obtain⟨_,q,rfl⟩:=I.g q 7 J;have M:=C;exact aD (b:=cc) (o:=cx) (j:=k) T44.und T46 dc q J J j0 j0 J fun a q=>As.ql q M
        ·refine As.Qx1 8 J fun a w a2 a0 Y a5 C q I Z=>?_;have bt:=Y _ _ bt;have M:=C;have C:=Step.dropN _ _ C;exact am (vs:=(tL cz c8 cf)) T46 J q J (C.blkH bt) J dk J fun a q=>As.ql q M
        ·refine As.Qx J fun a w a2 a0 Y a5 C q I Z=>?_;have M:=C;exact ak q J J fun a q=>As.ql q M
        obtain⟨d0,a0⟩:=e0;have b2: Le ax d0:=Z.le;dsimp only at aw C;have V:=V.mono b2;have bx:=bx.mono b2;have bz:=bz.mono b2;obtain⟨_,q,rfl⟩:=As.Dd q aw 4 J;obtain⟨_,q,rfl⟩:=As.Dd q aw 9 J;obtain⟨_,q,rfl⟩:=As.Dd q aw 10 J;have C:=C.front 2 J;have dr:=ih _ _ b8 _ _ _ _ _ F _ _ _ _ _ (Inv.left (L:= [a3]) C.inv) bx bz (dJ bh b8) a9 a4 V;refine any1 (i:=11) j1 J J (Co func85 q J (dr) ?_);rintro e w ⟨bk,b4,b5,bo,b9,b3,rfl,bq,bp,c3,bu,bg⟩;refine⟨_,rfl,fun a q=>?_⟩;have C:=Step.frame (Lc:= [a3]) C bg;refine any1 (i:=12) j1 J J (ak q J J fun a q=>?_);refine any2 (i:=13) (i':=14) j1 J J J J ?_ ?_
        ·refine id (ae (v:=(.slice b4 b9.length b5)) q J J J fun a q=>?_);refine any2 (i:=14) (i':=15) j1 J J J J ?_ ?_
         ·refine id (ae (v:=(.bool b3)) q J J J fun a q=>?_);refine any1 (i:=15) j1 J J (aG q J J fun a q=>?_);refine any1 (i:=16) j1 J J (aG q J J fun a q=>?_);refine any0 j1 ?_;refine aq (aa (ab (Lm J q fun a q=>?_)));refine lin J (aN (i:=((k: Nat): Int)) (j:=1) q J J J j0 fun a q=>?_);refine Ls J q fun a q=>?_;refine wpList_nil (aa (?_));have C:=C.fd [3,3] J;exact⟨p.l.length - (k+1),by omega,bk,(k+1),b3,b9,bo,b4,b5,(b7.trans (b2.trans (bg.le))),rfl,q.pk J,C,(by simpa using bq),bp,c3,(fun G a1=>bu (gx a7 G b8 c0) (hG G a1).2),j0⟩
         ·refine id (aG q J J fun a q=>?_);refine any1 (i:=14) j1 J J (ae (v:=(.bool b3)) q J J J fun a q=>?_);refine any1 (i:=16) j1 J J (aG q J J fun a q=>?_);refine any0 j1 ?_;refine aq (aa (ab (Lm J q fun a q=>?_)));refine lin J (aN (i:=((k: Nat): Int)) (j:=1) q J J J j0 fun a q=>?_);refine Ls J q fun a q=>?_;refine wpList_nil (aa (?_));have C:=C.fd [3,3] J;exact⟨p.l.length - (k+1),by omega,bk,(k+1),b3,b9,bo,b4,b5,(b7.trans (b2.trans (bg.le))),rfl,q.pk J,C,(by simpa using bq),bp,c3,(fun G a1=>bu (gx a7 G b8 c0) (hG G a1).2),j0⟩
        ·refine id (ae (v:=(.bool b3)) q J J J fun a q=>?_);refine any1 (i:=13) j1 J J (ae (v:=(.slice b4 b9.length b5)) q J J J fun a q=>?_);refine any1 (i:=15) j1 J J (aG q J J fun a q=>?_);refine any1 (i:=16) j1 J J (aG q J J fun a q=>?_);refine any0 j1 ?_;refine aq (aa (ab (Lm J q fun a q=>?_)));refine lin J (aN (i:=((k: Nat): Int)) (j:=1) q J J J j0 fun a q=>?_);refine Ls J q fun a q=>?_;refine wpList_nil (aa (?_));have C:=C.fd [3,3] J;exact⟨p.l.length - (k+1),by omega,bk,(k+1),b3,b9,bo,b4,b5,(b7.trans (b2.trans (bg.le))),rfl,q.pk J,C,(by simpa using bq),bp,c3,(fun G a1=>bu (gx a7 G b8 c0) (hG G a1).2),j0⟩
       ·refine ai q J (wp_exit (az (az (aO (aa (wp_seq (ab (Lm J q fun a q=>?_))))))));refine Lm J q fun a q=>?_;refine Ls J q fun a q=>?_;refine Ls J q fun a q=>?_;refine wpList_nil (aa (wp_ret (ret2 J q J J ?_)));have C:=C.fd [0,0] J;exact⟨_,_,_,_,F,_,rfl,a4,V,a9,hG,C⟩
      ·refine Lf J q J J fun a q=>?_;refine lin J (aj q J J J fun a q=>?_);refine wpList_nil (aa (ai q J (wp_exit (az (az (aO (aa (wp_seq (ab (Lm J q fun a q=>?_))))))))));refine Lm J q fun a q=>?_;refine Ls J q fun a q=>?_;refine Ls J q fun a q=>?_;refine wpList_nil (aa (wp_ret (ret2 J q J J ?_)));have C:=C.fd [0,0] J;exact⟨_,_,_,_,F,_,rfl,a4,V,a9,hG,C⟩
set_option maxHeartbeats 4000000 in
theorem c_R1Match {w0: World} {H: PHeap} (hI: Inv w0 H []) {p: Tm} {A: Option Addr} {c: Nat} (hr: RowT H A c p.l) {t: Tm} {A2: Option Addr} {c2: Nat} (hr2: RowT H A2 c2 t.l) (hok: isR p=true) (hok2: isR t=true): Calls prog 37 #[(tv p A c),(tv t A2 c2)] w0 (fun e w'=> ∃ H' A n c b,e=.returned (.tuple #[.slice A n c,.bool b,.int .i64 0])/\((∃(a: Int) (U: Tm),sbT a U p=t)->b=true)/\Step w0 H [] w' H' []):=by
 have C:=Step.refl hI;have a2:=(bN hok).2.2;obtain⟨av,U,Z⟩: ∃(av: Int) (U: Tm),(∃(a: Int) (U: Tm),sbT a U p=t)->sbT av U p=t:=by
  by_cases h: ∃(a: Int) (U: Tm),sbT a U p=t
  ·obtain⟨a,U,h⟩:=h;exact⟨a,U,fun _=>h⟩
  ·exact⟨0,Tm.zero,fun F=>absurd F h⟩
 refine enter [(tv p A c),(tv t A2 c2)] func37 J ntmps37 J fun a q=>?_;refine wp_seq (ab (lin J (aP (cs:=(tA p A c)) C q J J J fun a6 a w C q=>?_)));refine lin J (aP (cs:=(tA t A2 c2)) C q J J J fun a7 a w C q=>?_);refine Ls J q fun a q=>?_;refine Ls J q fun a q=>?_;refine Ls J q fun a q=>?_;refine wpList_nil (aa (wp_seq (wp_seq (ab (lin J (am (vs:=(tL p A c)) T46 J q J (C.blkL 1 J) J (ah J) J fun a q=>?_))))));have I:=c_R1Check C.inv.nil hr (Nat.le_trans (isR_sz hok) j4) (isR_str hok);rw [if_pos hok] at I;refine lin J (Cs func24 q J (I) C fun a w q C=>?_);refine lin J (bC (i:=0) (j:=0) q J J J fun a q=>?_);refine Lm J q fun a q=>?_;refine ad J q J J J (am (vs:=(tL t A2 c2)) T46 J q J (C.blkL 0 J) J (ah J) J fun a q=>?_);have M:=c_R1Check C.inv.nil hr2 (Nat.le_trans (isR_sz hok2) j4) (isR_str hok2);rw [if_pos hok2] at M;refine ad J q J J J (Co func24 q J (M) ?_);rintro e w ⟨rfl,X⟩;refine⟨_,rfl,fun a q=>?_⟩;have C:=C.call X;refine ad J q J J J (bC (i:=0) (j:=0) q J J J fun a q=>?_);refine lin J (aj q J J J fun a q=>?_);refine wpList_nil (aa (ai q J (wp_skip (aa (wp_seq (ab (lin J (am (vs:=(tL p A c)) T46 J q J (C.blkL 1 J) J (ah J) J fun a q=>?_))))))));refine lin J (am (vs:=(tL t A2 c2)) T46 J q J (C.blkL 0 J) J (ah J) J fun a q=>?_);have C:=C.cons_none (en:=noEnt) J;have a1:=c_match (av:=av) (U:=U) p _ _ t _ _ [] _ _ _ _ _ (Inv.left (L:= [noEnt]) C.inv) hr hr2 a2 j4 (show Row (.slice none ([]: List TV).length 0) noEnt 46 4 ([]: List TV).length (flat ([]: List TV)) from Row.nil 46 4) (AllR.nil _);refine lin J (Co func85 q J (a1) ?_);rintro e w ⟨a5,O,T,a8,a4,a3,rfl,ac,a9,af,a0,Y⟩;refine⟨_,rfl,fun a q=>?_⟩;have C:=Step.frame (Lc:= [noEnt]) C Y;refine Lm J q fun a q=>?_;refine lin J (ae (v:=(.slice O a4.length T)) q J J J fun a q=>?_);refine lin J (ae (v:=(.bool a3)) q J J J fun a q=>?_);refine Ls J q fun a q=>?_;refine Ls J q fun a q=>?_;refine wpList_nil (aa (wp_seq (wp_seq (ab (Lm J q fun a q=>?_)))));refine lin J (aQ q J J fun a q=>?_);refine wpList_nil (aa (ar (t:=24) q J (fun G q=>?_) (fun G q=>?_)))
 ·refine ap q J (wp_seq (ab (Ls J q fun a q=>?_)));refine Ls J q fun a q=>?_;refine Ls J q fun a q=>?_;refine wpList_nil (aa (wp_ret (ag (ret3 J q J J J ?_))));exact⟨_,_,_,_,_,rfl,(fun F=>by have V:=(a0 (Z F) Gm.nil).1;rw [V] at G;cases G),C.drop_all⟩
 ·refine ai q J (wp_skip (aa (wp_seq (ab (Lm J q fun a q=>?_)))));refine Ls J q fun a q=>?_;refine Ls J q fun a q=>?_;refine Ls J q fun a q=>?_;refine wpList_nil (aa (wp_ret (ret3 J q J J J ?_)));exact⟨_,_,_,_,_,rfl,(fun F=>rfl),C.drop_all⟩
theorem c_IndexWd {w0: World} {H: PHeap} (hI: Inv w0 H []) {A: Option Addr} {c: Nat} {xs: List Wd} {yv: Wd} (hr: RowG 4 Wd.cells H A c xs): Calls prog 84 #[(.slice A xs.length c),(.agg (wA yv))] w0 (IxW w0 H [] (xs.any (fun y=>decide (yv=y)))):=by
 have C:=Step.refl hI;have af:=hr.2.1;refine enter [(.slice A xs.length c),(.agg (wA yv))] func84 J ntmps84 J fun a q=>?_;refine wp_seq (ab (lin J (aP (cs:=(wA yv)) C q J J J fun I a w C q=>?_)));refine Ls J q fun a q=>?_;refine wpList_nil (aa (wp_seq (wp_seq (ab (Lm J q fun a q=>?_)))));refine lin J (aJ T29.und q J J fun a q=>?_);refine Lm J q fun a q=>?_;refine wpList_nil (aa (wp_block ?_));refine a6 (fun a5 a w=> ∃(k: Nat),a5=xs.length - k/\Has [] a 19 [(0,(.slice A xs.length c)),(3,(pB I)),(7,(iV ((xs.length: Nat): Int))),(8,(iV ((k: Nat): Int)))]/\Step w0 H [] w H [(eO I 34 (wA yv))]/\(k<=xs.length)/\(∀(j: Nat) (x: Wd),j < k->xs[j]? =some x->decide (yv=x)=false)) _ ⟨0,rfl,q.pk J,C,by omega,fun j x h=>by omega⟩ ?_;intro an a w a3;obtain⟨k,aj,q,C,ae,T⟩:=a3;refine wp_seq (ab (lin J (bj (i:=((k: Nat): Int)) (j:=((xs.length: Nat): Int)) q J J J fun a q=>?_)));refine wpList_nil (aa (wp_seq (al (t:=9) q J (fun Y q=>?_) (fun Y q=>?_))))
 ·refine ap q J (wp_skip (aa (wp_seq (wp_block (wp_seq (ab (Lm J q fun a q=>?_)))))));refine Ls J q fun a q=>?_;refine wpList_nil (aa (wp_seq ?_));have ad:=C;obtain⟨G,O,X,a9,a8,ac,V,Z,a0,a1⟩:=hr.get (j:=k) j5;refine bH bD [FcV (.agg (wA yv)),FcV (.slice A xs.length c),FcV (iV ((k: Nat): Int)),FcV (.pointer (some ⟨O,X+k * 4,none⟩)),FcV (.agg (wA G)),FcV (.bool (decide (yv=G)))] (N:=19) (E:= [(0,(.slice A xs.length c)),(3,(pB I)),(5,(iV ((k: Nat): Int))),(7,(iV ((xs.length: Nat): Int))),(8,(iV ((k: Nat): Int)))]) mixed J Mq C (q.pk J) (.c4 ?_ ?_ ?_ ?_ (.c2 ?_ ?_ (.nil))) (fun a w a7 a4 C q a2=>?_)
  ·refine Qz J fun a w C q F=>?_;exact am (vs:=(wL yv)) T34 J q J (C.blkL 0 J) J (ah J) J fun a q=>qe q C
  ·refine Qz J fun a w C q F=>?_;refine id (ak q J J fun a q=>?_);exact qdone J q C (by first |(rw [decide_eq_true hr] <;> rfl) |(rw [decide_eq_false hr] <;> rfl) |(rw [hr] <;> rfl) | simp [hr])
  ·refine Qz J fun a w C q F=>?_;exact ak q J J fun a q=>qe q C
  ·refine Qz1 1 J fun a w C q F=>?_;obtain⟨_,q,rfl⟩:=F.g q 2 J;exact aD (b:=O) (o:=X) (j:=k) T29.und T34 Z q J J j0 j0 J fun a q=>qe q C
  ·refine Qz1 3 J fun a w C q F=>?_;exact am (vs:=(wL G)) T34 J q J (C.blkH a0) J a1 J fun a q=>qe q C
  ·refine Qz1 0 J fun a w C q F=>?_;obtain⟨_,q,rfl⟩:=F.g q 4 J;exact o_eqwd (x1:=yv) (y1:=G) q J J J fun a q=>qe q C
  subst a4;obtain⟨_,q,rfl⟩:=Dd q a2 5 J;refine aa (al (t:=16) q J (fun M q=>?_) (fun M q=>?_))
  ·refine ap q J (wp_seq (ab (Lm J q fun a q=>?_)));refine Ls J q fun a q=>?_;refine wpList_nil (aa (wp_ret (aw (ag (ag (aw (ag (ret1 J q J ?_))))))));have C:=C.drop;exact⟨(k: Int),rfl,⟨fun _=>some_any V (decide_eq_true M),fun _=>by omega⟩,C⟩
  ·refine ai q J (wp_skip (aq (aa (ab (lin J (aN (i:=((k: Nat): Int)) (j:=1) q J J J j0 fun a q=>?_))))));refine Lm J q fun a q=>?_;refine wpList_nil (aa (?_));exact⟨xs.length - (k+1),by omega,(k+1),rfl,q.pk J,C,j0,(next_no T V (decide_eq_false M))⟩
 ·refine ai q J (wp_exit (az (az (aO (aa (wp_seq (ab (Ls J q fun a q=>?_))))))));refine wpList_nil (aa (wp_ret (ret1 J q J ?_)));have C:=C.drop;exact⟨-1,rfl,⟨fun h=>by omega,fun h=>by rw [none_any T j0] at h;cases h⟩,C⟩
theorem c_ContainsWd {w0: World} {H: PHeap} (hI: Inv w0 H []) {A: Option Addr} {c: Nat} {xs: List Wd} {yv: Wd} (hr: RowG 4 Wd.cells H A c xs): Calls prog 35 #[(.slice A xs.length c),(.agg (wA yv))] w0 (Rs w0 H (.bool (decide (yv ∈ xs)))):=by
 have C:=Step.refl hI;refine enter [(.slice A xs.length c),(.agg (wA yv))] func35 J ntmps35 J fun a q=>?_;refine wp_seq (ab (lin J (aP (cs:=(wA yv)) C q J J J fun T a w C q=>?_)));refine Ls J q fun a q=>?_;refine wpList_nil (aa (wp_seq (ab (Lm J q fun a q=>?_))));refine lin J (am (vs:=(wL yv)) T34 J q J (C.blkL 0 J) J (ah J) J fun a q=>?_);have M:=c_IndexWd (yv:=yv) C.inv.nil hr;refine lin J (Co func84 q J (M) ?_);rintro e w ⟨O,rfl,I,G⟩;refine⟨_,rfl,fun a q=>?_⟩;have C:=C.call G;refine lin J (cV (i:=O) (j:=0) q J J J fun a q=>?_);refine Ls J q fun a q=>?_;refine wpList_nil (aa (wp_ret (ret1 J q J ?_)));have C:=C.drop;refine⟨congrArg _ (congrArg _ ?_),C.plain⟩;rw [Bool.eq_iff_iff,decide_eq_true_eq,decide_eq_true_eq,I,List.any_eq_true]
 constructor
 ·rintro⟨y,h1,h2⟩;rw [of_decide_eq_true h2];exact h1
 ·intro F;exact⟨_,F,decide_eq_true J⟩
theorem c_reused {w0: World} {H: PHeap} (hI: Inv w0 H []) {yw: Wd} {x: StV} {A: Option Addr} {n c: Nat}: Calls prog 36 #[(.agg (wA yw)),(.agg #[(iV x.kd),(iV x.a),(iV x.b),(iV x.c)]),(.slice A n c)] w0 (Rs w0 H (.bool (reB yw x))):=by
 have C:=Step.refl hI;refine enter [(.agg (wA yw)),(.agg #[(iV x.kd),(iV x.a),(iV x.b),(iV x.c)]),(.slice A n c)] func36 J ntmps36 J fun a q=>?_;refine wp_seq (ab (lin J (aP (cs:=(wA yw)) C q J J J fun V a w C q=>?_)));refine lin J (aP (cs:= #[(iV x.kd),(iV x.a),(iV x.b),(iV x.c)]) C q J J J fun Y a w C q=>?_);refine Ls J q fun a q=>?_;refine wpList_nil (aa (wp_seq (ab (lin J (ac (f:=0) (o2:=0) T67 T3 J J J J q J J fun a q=>?_)))));refine lin J (af (v:=(iV x.kd)) T3 J q J (C.blkL 0 J) J J fun a q=>?_);have X:=cG (k:=x.kd) (n:=9) C.inv.nil j0;refine lin J (Cs func11 q J (X) C fun a w q C=>?_);refine Ls J q fun a q=>?_;refine wpList_nil (aa (wp_seq (bI (D:= []) (N:=31) (E:= [(3,(pB V)),(6,(.bool ((((decide ((ixZ x.kd 9)=5))||(decide ((ixZ x.kd 9)=6)))&&yw.one)&&((decide (yw.tag=5))||(decide (yw.tag=6)))))),(7,(iV (ixZ x.kd 9)))]) (fun a q=>?_) ?_)));rotate_left
 ·refine Lm J q fun a q=>?_;refine lin J (aW (i:=(ixZ x.kd 9)) (j:=5) q J J J fun a q=>?_);refine Lm J q fun a q=>?_;refine al (t:=13) q J (fun F q=>?_) (fun F q=>?_)
  ·refine Lf J q J J fun a q=>?_;refine Lf J q J J fun a q=>?_;refine lin J (ao q J J J fun a q=>?_);refine Lm J q fun a q=>?_;refine ad J q J J J (ac (f:=3) (o2:=3) T34 T4 J J J J q J J fun a q=>?_);refine ad J q J J J (af (v:=(.bool yw.one)) T4 J q J (C.blkL 1 J) J J fun a q=>?_);refine lin J (ao q J J J fun a q=>?_);refine Lm J q fun a q=>?_;refine ar (t:=21) q J (fun M q=>?_) (fun M q=>?_)
   ·refine ad J q J J J (ac (f:=0) (o2:=0) T34 T3 J J J J q J J fun a q=>?_);refine ad J q J J J (af (v:=(iV yw.tag)) T3 J q J (C.blkL 1 J) J J fun a q=>?_);refine ad J q J J J (aW (i:=yw.tag) (j:=5) q J J J fun a q=>?_);refine ad J q J J J (ak q J J fun a q=>?_);refine al (t:=25) q J (fun T q=>?_) (fun T q=>?_)
    ·refine Lf J q J J fun a q=>?_;refine Lf J q J J fun a q=>?_;refine Lf J q J J fun a q=>?_;refine ad J q J J J (ao q J J J fun a q=>?_);refine lin J (ao q J J J fun a q=>?_);refine Ls J q fun a q=>?_;exact wpList_nil ⟨rfl,rfl,Has.cons q J (Has.cons q (by simp [lk,Nat.beq,F,M,T]) (q.pk J))⟩
    ·refine ad J q J J J (ac (f:=0) (o2:=0) T34 T3 J J J J q J J fun a q=>?_);refine ad J q J J J (af (v:=(iV yw.tag)) T3 J q J (C.blkL 1 J) J J fun a q=>?_);refine ad J q J J J (aW (i:=yw.tag) (j:=6) q J J J fun a q=>?_);refine ad J q J J J (aj q J J J fun a q=>?_);refine lin J (ao q J J J fun a q=>?_);refine Ls J q fun a q=>?_;exact wpList_nil ⟨rfl,rfl,Has.cons q J (Has.cons q (by simp [lk,Nat.beq,F,M,T]) (q.pk J))⟩
   ·refine Lf J q J J fun a q=>?_;refine Lf J q J J fun a q=>?_;refine Lf J q J J fun a q=>?_;refine Lf J q J J fun a q=>?_;refine a7 J J J q J J J fun a q=>?_;refine a7 J J J q J J J fun a q=>?_;refine a7 J J J q J J J fun a q=>?_;refine Lf J q J J fun a q=>?_;refine lin J (aj q J J J fun a q=>?_);refine Ls J q fun a q=>?_;exact wpList_nil ⟨rfl,rfl,Has.cons q J (Has.cons q (by simp [lk,Nat.beq,F,M]) (q.pk J))⟩
  ·refine ad J q J J J (ak q J J fun a q=>?_);refine ad J q J J J (aW (i:=(ixZ x.kd 9)) (j:=6) q J J J fun a q=>?_);refine lin J (aj q J J J fun a q=>?_);refine Lm J q fun a q=>?_;refine al (t:=17) q J (fun G q=>?_) (fun G q=>?_)
   ·refine ad J q J J J (ac (f:=3) (o2:=3) T34 T4 J J J J q J J fun a q=>?_);refine ad J q J J J (af (v:=(.bool yw.one)) T4 J q J (C.blkL 1 J) J J fun a q=>?_);refine lin J (ao q J J J fun a q=>?_);refine Lm J q fun a q=>?_;refine ar (t:=21) q J (fun I q=>?_) (fun I q=>?_)
    ·refine ad J q J J J (ac (f:=0) (o2:=0) T34 T3 J J J J q J J fun a q=>?_);refine ad J q J J J (af (v:=(iV yw.tag)) T3 J q J (C.blkL 1 J) J J fun a q=>?_);refine ad J q J J J (aW (i:=yw.tag) (j:=5) q J J J fun a q=>?_);refine ad J q J J J (ak q J J fun a q=>?_);refine al (t:=25) q J (fun O q=>?_) (fun O q=>?_)
     ·refine Lf J q J J fun a q=>?_;refine Lf J q J J fun a q=>?_;refine Lf J q J J fun a q=>?_;refine ad J q J J J (ao q J J J fun a q=>?_);refine lin J (ao q J J J fun a q=>?_);refine Ls J q fun a q=>?_;exact wpList_nil ⟨rfl,rfl,Has.cons q J (Has.cons q (by simp [lk,Nat.beq,F,G,I,O]) (q.pk J))⟩
     ·refine ad J q J J J (ac (f:=0) (o2:=0) T34 T3 J J J J q J J fun a q=>?_);refine ad J q J J J (af (v:=(iV yw.tag)) T3 J q J (C.blkL 1 J) J J fun a q=>?_);refine ad J q J J J (aW (i:=yw.tag) (j:=6) q J J J fun a q=>?_);refine ad J q J J J (aj q J J J fun a q=>?_);refine lin J (ao q J J J fun a q=>?_);refine Ls J q fun a q=>?_;exact wpList_nil ⟨rfl,rfl,Has.cons q J (Has.cons q (by simp [lk,Nat.beq,F,G,I,O]) (q.pk J))⟩
    ·refine Lf J q J J fun a q=>?_;refine Lf J q J J fun a q=>?_;refine Lf J q J J fun a q=>?_;refine Lf J q J J fun a q=>?_;refine a7 J J J q J J J fun a q=>?_;refine a7 J J J q J J J fun a q=>?_;refine a7 J J J q J J J fun a q=>?_;refine Lf J q J J fun a q=>?_;refine lin J (aj q J J J fun a q=>?_);refine Ls J q fun a q=>?_;exact wpList_nil ⟨rfl,rfl,Has.cons q J (Has.cons q (by simp [lk,Nat.beq,F,G,I]) (q.pk J))⟩
   ·refine Lf J q J J fun a q=>?_;refine Lf J q J J fun a q=>?_;refine lin J (aj q J J J fun a q=>?_);refine Lm J q fun a q=>?_;refine Lf J q J J fun a q=>?_;refine Lf J q J J fun a q=>?_;refine Lf J q J J fun a q=>?_;refine Lf J q J J fun a q=>?_;refine a7 J J J q J J J fun a q=>?_;refine a7 J J J q J J J fun a q=>?_;refine a7 J J J q J J J fun a q=>?_;refine Lf J q J J fun a q=>?_;refine lin J (aj q J J J fun a q=>?_);refine Ls J q fun a q=>?_;exact wpList_nil ⟨rfl,rfl,Has.cons q J (Has.cons q (by simp [lk,Nat.beq,F,G]) (q.pk J))⟩
 refine aa (wp_ret (ret1 J q J ?_));refine⟨congrArg _ ?_,C.plain.drop_all⟩;rfl
end Go.Vk.Try
namespace Go.Vk.Try
open Go.RowKit
theorem c_mRead {w0: World} {H: PHeap} {q p: Nat} {ws bs: List Wd} {h: HS} {L: List Ent} (hI: Inv w0 H L) (hM: HM q p ws bs h L) {x: Wd}: Calls prog 20 #[.pointer (some ⟨p,0,none⟩),.agg #[.int .i64 x.tag,.int .i64 x.n,.string x.s,.bool x.one]] w0 (fun e w'=> ∃ H' A c,e=.returned (.tuple #[tv (readS h.S x).1 A c,.int .i64 (readS h.S x).2])/\RowT H' A c (readS h.S x).1.l/\Step w0 H L w' H' L):=by
 obtain⟨C,I,rfl,J,F⟩:=hM;refine Calls.mono (fI (Step.tail C (Step.refl hI)) F) ?_;rintro e w ⟨H',A,c,rfl,hr,G⟩;exact⟨H',A,c,rfl,hr,Step.frameR C (Step.refl hI) G⟩
set_option maxHeartbeats 4000000 in
theorem c_HeapInPlace {w0: World} {H: PHeap} (hI: Inv w0 H []) {n: Int} {A: Option Addr} {c: Nat} {xs: List StV} (hr: RowG 4 StV.cells H A c xs): Calls prog 7 #[(iV n),(.slice A xs.length c)] w0 (fun e w'=> ∃ H',e=.returned (.bool true)/\Step w0 H [] w' H' []):=by
 have C:=Step.refl hI;have i4:=hr.2.1;refine enter [(iV n),(.slice A xs.length c)] func7 J ntmps7 J fun a q=>?_;refine wp_seq (ab (Ls J q fun a q=>?_));refine wpList_nil (aa (wp_seq (wp_seq (ab ?_))));have g5:=c_sane C.inv.nil;refine lin J (Co func9 q J (g5) ?_);rintro e w ⟨dx,rfl,eb⟩;refine⟨_,rfl,fun a q=>?_⟩;have C:=C.call eb;have hr:=hr.mono eb.le;refine lin J (aQ q J J fun a q=>?_);refine wpList_nil (aa (ai q J (wp_skip (aa (wp_seq (wp_seq (ab (Lm J q fun a q=>?_))))))));refine lin J (aJ T63.und q J J fun a q=>?_);refine lin J (cO (i:=((xs.length: Nat): Int)) (j:=40) q J J J fun a q=>?_);refine Lm J q fun a q=>?_;refine al (t:=29) q J (fun f4 q=>?_) (fun f4 q=>?_)
 ·refine Lf J q J J fun a q=>?_;refine Lf J q J J fun a q=>?_;refine lin J (ao q J J J fun a q=>?_);refine Lm J q fun a q=>?_;refine Lf J q J J fun a q=>?_;refine Lf J q J J fun a q=>?_;refine lin J (ao q J J J fun a q=>?_);refine wpList_nil (aa (ap q J (wp_seq (ab (Ls J q fun a q=>?_)))));refine wpList_nil (aa (wp_ret (ag (ret1 J q J ?_))));exact⟨_,rfl,C.drop_all⟩
 ·refine ad J q J J J (ak q J J fun a q=>?_);refine ad J q J J J (cO (i:=n) (j:=1000) q J J J fun a q=>?_);refine lin J (aj q J J J fun a q=>?_);refine Lm J q fun a q=>?_;refine al (t:=33) q J (fun f6 q=>?_) (fun f6 q=>?_)
  ·refine Lf J q J J fun a q=>?_;refine Lf J q J J fun a q=>?_;refine lin J (ao q J J J fun a q=>?_);refine wpList_nil (aa (ap q J (wp_seq (ab (Ls J q fun a q=>?_)))));refine wpList_nil (aa (wp_ret (ag (ret1 J q J ?_))));exact⟨_,rfl,C.drop_all⟩
  ·refine ad J q J J J (ak q J J fun a q=>?_);refine ad J q J J J (bj (i:=n) (j:=16) q J J J fun a q=>?_);refine lin J (aj q J J J fun a q=>?_);refine wpList_nil (aa (al (t:=36) q J (fun f7 q=>?_) (fun f7 q=>?_)))
   ·refine ap q J (wp_seq (ab (Ls J q fun a q=>?_)));refine wpList_nil (aa (wp_ret (ag (ret1 J q J ?_))));exact⟨_,rfl,C.drop_all⟩
   ·refine ai q J (wp_skip (aa (wp_seq (ab (Lm J q fun a q=>?_)))));have gf:=c_begun (n:=n) C.inv.nil j0;refine lin J (Co func31 q J (gf) ?_);rintro e w ⟨b3,cn,er,rfl,fh,fr⟩;refine⟨_,rfl,fun a q=>?_⟩;have C:=(Step.frame (Lc:= []) (R:= []) C fr).perm List.perm_append_comm;refine Ls J q fun a q=>?_;refine wpList_nil (aa (wp_seq (wp_seq (ab (Lm J q fun a q=>?_)))));refine lin J (bg T64.und T70 q J J J fun a q=>?_);refine wpList_nil (aa (ai q J (wp_skip (aa (wp_seq (wp_seq (ab (Lm J q fun a q=>?_))))))));refine lin J (aJ T63.und q J J fun a q=>?_);refine Lm J q fun a q=>?_;refine wpList_nil (aa (wp_block (a6 (fun cl a w=> ∃(d3: PHeap),∃(k: Nat),∃(O: HS),∃(ws: List Wd),∃(bs: List Wd),∃(bv: List Ent),Le dx d3/\cl=xs.length - k/\Has [] a 161 [(5,(pB b3)),(41,(.slice A xs.length c)),(42,(iV ((xs.length: Nat): Int))),(43,(iV ((k: Nat): Int)))]/\Step w0 H [] w d3 (bv)/\(HM b3 cn ws bs O bv)/\(DI O ws bs)/\(FO (HS.S O))/\(ws.length<=130 * k)/\(bs.length<=k)/\(k<=xs.length)) _ ⟨dx,0,(HS.new (Int.toNat n)), [], [],er,Le.refl _,rfl,q.pk J,C,fh,(DI.new j0),(FO.new _),j3,j3,j0⟩ ?_)));intro ih a w O;obtain⟨d3,k,O,ws,bs,bv,eg,i9,q,C,cu,c7,dc,i5,i2,i1⟩:=O;have hr:=hr.mono eg;have ia:(ws++bs).length=ws.length+bs.length:=List.length_append;refine wp_seq (ab (lin J (bj (i:=((k: Nat): Int)) (j:=((xs.length: Nat): Int)) q J J J fun a q=>?_)));refine wpList_nil (aa (wp_seq (al (t:=44) q J (fun f9 q=>?_) (fun f9 q=>?_))))
    ·refine ap q J (wp_skip (aa (wp_seq (wp_block (wp_seq (ab ?_))))));obtain⟨V,es,h0,hn,hj,hv,ic,fa,fj,fn⟩:=hr.get (j:=k) j5;refine lin J (aD (b:=es) (o:=h0) (j:=k) T63.und T67 fa q J J j0 j0 J fun a q=>?_);refine lin J (am (vs:= [(iV V.kd),(iV V.a),(iV V.b),(iV V.c)]) T67 J q J (C.blkH fj) J fn J fun a q=>?_);refine lin J (aF (cs:= #[(iV 0),(iV 0),(iV 0),(iV 0)]) T67 C q J J fun bl a w C q=>?_);refine lin J (an (cs':= #[(iV V.kd),(iV V.a),(iV V.b),(iV V.c)]) T67 C (i:=0) J q J J J J J J fun a w C q=>?_);refine wpList_nil (aa (wp_seq (ab (Lm J q fun a q=>?_))));have g4:=c_mall (C.tail [(eO bl 67 #[(iV V.kd),(iV V.a),(iV V.b),(iV V.c)])]) cu j0 j0;refine lin J (Co func34 q J (g4) ?_);rintro e w ⟨dy,a9,av,rfl,b8,dg⟩;refine⟨_,rfl,fun a q=>?_⟩;have C:=C.frameR [(eO bl 67 #[(iV V.kd),(iV V.a),(iV V.b),(iV V.c)])] dg;have hr:=hr.mono dg.le;refine Ls J q fun a q=>?_;refine wpList_nil (aa (wp_seq (ab (Ls J q fun a q=>?_))));refine wpList_nil (aa (wp_seq (wp_seq (ab (Lm J q fun a q=>?_)))));refine lin J (aJ T29.und q J J fun a q=>?_);refine Lm J q fun a q=>?_;refine wpList_nil (aa (wp_block ?_));have C:=C.cons_none (en:=noEnt) J;refine a6 (fun cl a w=> ∃(ca: PHeap),∃(j: Nat),∃(a3: List TV),∃(a1: Ent),∃(b6: Option Addr),∃(bh: Nat),Le dy ca/\cl=(ws++bs).length - j/\Has [] a 161 [(5,(pB b3)),(7,(pB bl)),(8,(.slice a9 ((ws++bs).length) av)),(9,(.slice b6 a3.length bh)),(41,(.slice A xs.length c)),(42,(iV ((xs.length: Nat): Int))),(43,(iV ((k: Nat): Int))),(49,(.slice a9 ((ws++bs).length) av)),(50,(iV (((ws++bs).length: Nat): Int))),(51,(iV ((j: Nat): Int)))]/\Step w0 H [] w ca (a1::(eO bl 67 #[(iV V.kd),(iV V.a),(iV V.b),(iV V.c)])::bv)/\(Row (.slice b6 a3.length bh) a1 46 4 a3.length (flat a3))/\(AllR ca a3)/\(a3.map TV.t=((ws++bs).take j).map (fun w=>(readS (HS.S O) w).1))/\(∀ u ∈(ws++bs).take j,(readS (HS.S O) u).2=0)/\(j<=(ws++bs).length)/\(a3.length=j)) _ ⟨dy,0, [],noEnt,none,0,Le.refl _,rfl,q.pk J,C,(Row.nil _ _),(AllR.nil _),rfl,(fun u hu=>by simp at hu),j0,rfl⟩ ?_;intro ie a w O;obtain⟨ca,j,a3,a1,b6,bh,cw,i7,q,C,cg,b5,ci,df,hz,gx⟩:=O;have hr:=hr.mono cw;have b8:=b8.mono cw;have hy:=Row.cap cg;refine wp_seq (ab (lin J (bj (i:=((j: Nat): Int)) (j:=(((ws++bs).length: Nat): Int)) q J J J fun a q=>?_)));let a4:=(eO bl 67 #[(iV V.kd),(iV V.a),(iV V.b),(iV V.c)]);refine wpList_nil (aa (wp_seq (al (t:=52) q J (fun f2 q=>?_) (fun f2 q=>?_))))
     ·refine ap q J (wp_skip (aa (wp_seq (wp_block (wp_seq (ab ?_))))));obtain⟨Z,et,h3,hp,hk,hw,dp,fb,fk,fp⟩:=b8.get (j:=j) j5;refine lin J (aD (b:=et) (o:=h3) (j:=j) T29.und T34 fb q J J j0 j0 J fun a q=>?_);refine lin J (am (vs:=(wL Z)) T34 J q J (C.blkH fk) J fp J fun a q=>?_);refine lin J (aF (cs:= #[(iV 0),(iV 0),(.string (⟨#[]⟩)),(.bool false)]) T34 C q J J fun d4 a w C q=>?_);refine lin J (an (cs':=(wA Z)) T34 C (i:=0) J q J J J J J J fun a w C q=>?_);refine wpList_nil (aa (wp_seq ?_));have ch:=C;let c3:=(eO d4 34 (wA Z));refine As.c_draw_head (ini:=(As.il [])) (sup:=(As.sl [(9,10)])) (als:= [9,10]) (s0:=⟨ca,fun _=>none⟩) (L:=(c3::a1::a4::bv)) (N:=161) (E:= [(5,(pB b3)),(7,(pB bl)),(8,(.slice a9 ((ws++bs).length) av)),(9,(.slice b6 a3.length bh)),(11,(pB d4)),(41,(.slice A xs.length c)),(42,(iV ((xs.length: Nat): Int))),(43,(iV ((k: Nat): Int))),(49,(.slice a9 ((ws++bs).length) av)),(50,(iV (((ws++bs).length: Nat): Int))),(51,(iV ((j: Nat): Int)))]) 11 [FcV (pB b3),FcV (pB b3),FcV (pB b3),FcV (pB cn),FcV (.agg (wA Z)),As.lf (fun H v=> ∃ A c,v=(.tuple #[(tv ((readS (HS.S O) Z).1) A c),(iV ((readS (HS.S O) Z).2))])/\RowT H A c ((readS (HS.S O) Z).1.l)),As.lf (fun H v=> ∃ A c,v=(.tuple #[(tv ((readS (HS.S O) Z).1) A c),(iV ((readS (HS.S O) Z).2))])/\RowT H A c ((readS (HS.S O) Z).1.l)),As.lf (fun H v=> ∃ A c,v=(tv ((readS (HS.S O) Z).1) A c)/\RowT H A c ((readS (HS.S O) Z).1.l)),FcV (iV ((readS (HS.S O) Z).2)),fun s v=> ∃ b,s.ax 9=some [(some b,(.cells aZ 46 (0,0)))]/\v=.pointer (some ⟨b,0,none⟩),fun s _=> ∃(b: Nat) (A: Option Addr) (c: Nat),s.ax 9=some [(some b,(.cells aZ 46 (0,0)))]/\s.ax 10=some [(eO b 46 (tA ((readS (HS.S O) Z).1) A c))]/\RowT s.H A c ((readS (HS.S O) Z).1.l)] mixed j1 j1 j1 j9 (fun _=>rfl) C (q.pk J) (As.QuietsI.c4 ?_ ?_ ?_ ?_ (As.QuietsI.c4 ?_ ?_ ?_ ?_ (As.QuietsI.c2 ?_ ?_ (As.QuietsI.cons ?_ (As.QuietsI.nil))))) (fun f1 a w dt a8 C q b7=>?_)
      ·refine As.Qx J fun a w M T I a2 C q F a8=>?_;have a0:=C;exact ak q J J fun a q=>As.ql q a0
      ·refine As.Qx1 0 J fun a w M T I a2 C q F a8=>?_;have a0:=C;exact aB q J J fun a q=>As.ql q a0
      ·refine As.Qx1 1 J fun a w M T I a2 C q F a8=>?_;have a0:=C;exact ac (f:=0) (o2:=0) T70 T24 J J J J q J J fun a q=>As.ql q a0
      ·refine As.Qx1 2 J fun a w M T I a2 C q F a8=>?_;have a0:=C;have C:=Step.dropN _ _ C;obtain⟨em,gy,ev,eo,gz,ew,dn⟩:=HM.blk cu;have dm:=C.inv.own _ (bJ [c3,a1,a4] dn) b3 J;exact af (v:=(pB cn)) T24 J q J dm J J fun a q=>As.ql q a0
      ·refine As.Qx J fun a w M T I a2 C q F a8=>?_;have a0:=C;have C:=Step.dropN _ _ C;exact am (vs:=(wL Z)) T34 J q J (C.blkL 0 J) J (ah J) J fun a q=>As.ql q a0
      ·refine As.Qx1 3 J fun a w M T I a2 C q F a8=>?_;obtain⟨_,q,rfl⟩:=F.g q 4 J;have a0:=C;have fi:=Step.dropN _ _ C;have C:=Step.perm C (List.Perm.of_eq (List.append_assoc (As.aents (As.il []) (As.sl [(9,10)]) [9,10] T) [c3,a1,a4] bv).symm);have g6:=c_mRead (C.tail ((As.aents (As.il []) (As.sl [(9,10)]) [9,10] T)++ [c3,a1,a4])) cu (x:=Z);refine id (Co func20 q J (g6) ?_);rintro e w ⟨h8,ay,b0,rfl,br,ec⟩;refine⟨_,rfl,fun a q=>?_⟩;have C:=C.frameR ((As.aents (As.il []) (As.sl [(9,10)]) [9,10] T)++ [c3,a1,a4]) ec;have C:=Step.perm C (List.Perm.of_eq (List.append_assoc (As.aents (As.il []) (As.sl [(9,10)]) [9,10] T) [c3,a1,a4] bv));exact As.qdone (s:=⟨M,T⟩) ec.le q C ⟨ay,b0,rfl,br⟩
      ·refine As.Qx J fun a w M T I a2 C q F a8=>?_;obtain⟨_,q,ay,b0,rfl,br⟩:=F.g q 5 J;have a0:=C;refine id (ak q J J fun a q=>?_);exact As.qdone (s:=⟨M,T⟩) (Le.refl _) q a0 ⟨ay,b0,rfl,br⟩
      ·refine As.Qx J fun a w M T I a2 C q F a8=>?_;obtain⟨_,q,ay,b0,rfl,br⟩:=F.g q 6 J;have a0:=C;refine id (ae (v:=(tv ((readS (HS.S O) Z).1) ay b0)) q J J J fun a q=>?_);exact As.qdone (s:=⟨M,T⟩) (Le.refl _) q a0 ⟨ay,b0,rfl,br⟩
      ·refine As.Qx J fun a w M T I a2 C q F a8=>?_;obtain⟨_,q,ay,b0,rfl,br⟩:=F.g q 6 J;have a0:=C;exact ae (v:=(iV ((readS (HS.S O) Z).2))) q J J J fun a q=>As.ql q a0
      ·refine As.Qx J fun a w M T I a2 C q F a8=>?_;have C: Step w0 H [] w M ((As.aents (As.il []) (As.sl [(9,10)]) [] T++As.aents (As.il []) (As.sl [(9,10)]) [10] T++(c3::a1::a4::bv))):=As.opn (s:=⟨M,T⟩) [] [9] [10] [] J (As.con0 a2 J) C;refine aF (cs:=aZ) T46 C q J J fun bt a w C q=>?_;exact As.qown (i:=9) (dst:=some 12) (s:=⟨M,T⟩) (E:= [(some bt,(.cells aZ 46 (0,0)))]) [] [9] [10] J J a2 (Le.refl _) q.dfr (As.has_at q) C As.con1 ⟨bt,rfl,rfl⟩
      ·refine As.Qx J fun a w M T I a2 C q F a8=>?_;obtain⟨_,q,bt,c0,rfl⟩:=F.g q 9 J;have c0: T 9=some [(some bt,(.cells aZ 46 (0,0)))]:=c0;obtain⟨_,q,ay,b0,rfl,br⟩:=F.g q 7 J;have C: Step w0 H [] w M ((some bt,(.cells aZ 46 (0,0)))::(As.aents (As.il []) (As.sl [(9,10)]) [] T++As.aents (As.il []) (As.sl [(9,10)]) [] T++(c3::a1::a4::bv))):=As.opn (s:=⟨M,T⟩) [] [9,10] [] [(some bt,(.cells aZ 46 (0,0)))] J (As.con2 J J J c0 a2) C;refine id (an (cs':=(tA ((readS (HS.S O) Z).1) ay b0)) T46 C (i:=0) J q J J J J J J fun a w C q=>?_);exact As.qown (i:=10) (dst:=none) (s:=⟨M,T⟩) (E:= [(eO bt 46 (tA ((readS (HS.S O) Z).1) ay b0))]) [] [9,10] [] J J a2 (Le.refl _) q.dfr (v:=undef) (fun _ h=>by cases h) C (.inl (As.con2' J J)) ⟨bt,ay,b0,c0,rfl,br⟩
      obtain⟨dz,T⟩:=dt;have ef: Le ca dz:=a8.le;dsimp only at b7 C;have b5:=b5.mono ef;obtain⟨_,q,rfl⟩:=As.Dd q b7 8 J;obtain⟨_,q,bt,c0,rfl⟩:=As.Dd q b7 9 J;have c0: T 9=some [(some bt,(.cells aZ 46 (0,0)))]:=c0;obtain⟨_,gw,ek,ay,b0,gq,dq,br⟩:=b7 10 _ _ J J;have dq: T 10=some [(eO ek 46 (tA ((readS (HS.S O) Z).1) ay b0))]:=dq;obtain rfl: bt=ek:=by have bq:=(c0).symm.trans gq;simpa using bq
      have C: Step w0 H [] w dz ((eO bt 46 (tA ((readS (HS.S O) Z).1) ay b0))::(eO d4 34 (wA Z))::a1::a4::bv):=by
       have bq:=C;unfold As.aents at bq;simp only [List.flatMap_cons,List.flatMap_nil,As.conE,show (As.sl [(9,10)]) 9=some 10 from rfl,show (As.sl [(9,10)]) 10=none from rfl,c0,dq,Option.isSome_some,Option.getD_some,cond_true,cond_false,List.cons_append,List.nil_append,List.append_nil] at bq;exact bq
      refine any1 (i:=11) j1 J J (aG q J J fun a q=>?_);refine any0 j1 ?_;refine aa (wp_seq (wp_seq (ab (Lm J q fun a q=>?_))));refine lin J (bC (i:=((readS (HS.S O) Z).2)) (j:=0) q J J J fun a q=>?_);refine wpList_nil (aa (aM (t:=65) q J (fun f3 q=>?_) (fun f3 q=>?_)))
      ·refine ap q J (wp_seq (ab (Lm J q fun a q=>?_)));refine lin J (aW (i:=((readS (HS.S O) Z).2)) (j:=2) q J J J fun a q=>?_);refine Ls J q fun a q=>?_;refine wpList_nil (aa (wp_ret (ag (aw (ag (ag (aw (ag (aw (ag (ag (aw (ag (ret1 J q J ?_))))))))))))));rw [show (decide (((readS (HS.S O) Z).2)=2))=true from decide_eq_true ((read_err (c7.word (List.mem_of_getElem? dp))).resolve_left (by assumption))];exact⟨_,rfl,C.drop_all⟩
      ·refine ai q J (wp_skip (aa (ab (Lm J q fun a q=>?_))));refine lin J (am (vs:=(tL ((readS (HS.S O) Z).1) ay b0)) T46 J q J (C.blkL 0 J) J (ah J) J fun a q=>?_);refine lin J (aY (vs:= [(0,(tv ((readS (HS.S O) Z).1) ay b0))]) (cells:=(tL ((readS (HS.S O) Z).1) ay b0)) T44.und T46 C q (q.evp J) J J J J fun e3 a w C q=>?_);obtain⟨e0,C,dj,ea⟩:=C.give;have b5:=b5.mono dj;have br:=br.mono dj;have ib: RowT e0 (some ⟨e3,0,none⟩) 1 [(readS (HS.S O) Z).1]:=RowT.of_lit ([⟨(readS (HS.S O) Z).1,ay,b0⟩]: List TV) ea (AllR.cons br (AllR.nil _)) j3 J;have C:=C.front 2 J;refine lin J (aK (news:=(flat ([⟨(readS (HS.S O) Z).1,ay,b0⟩]: List TV))) (xs:=(flat a3)) T44.und T46 J J C cg q J J J (fun _=>⟨e3,0,_,_,_,rfl,C.blkH ea,ah J⟩) (cQ J) j0 J J fun ii f0 a w cf C q=>?_);rw [<- cm] at cf;obtain⟨d1,d5,rfl⟩:=cf.slice;have cz:(a3.length+1)=(a3++([⟨(readS (HS.S O) Z).1,ay,b0⟩]: List TV)).length:=by have bq:=cf.1;rw [bG] at bq;omega
       rw [show Value.slice d1 (a3.length+1) d5=Value.slice d1 (a3++([⟨(readS (HS.S O) Z).1,ay,b0⟩]: List TV)).length d5 from by rw [cz]] at q;rw [cz] at cf;refine Ls J q fun a q=>?_;refine wpList_nil (aq (aa (ab (lin J (aN (i:=((j: Nat): Int)) (j:=1) q J J J j0 fun a q=>?_)))));refine Lm J q fun a q=>?_;refine wpList_nil (aa (?_));have C:=C.fd [2,0,2,0] J;exact⟨(ws++bs).length - (j+1),by omega,e0,(j+1),(a3++([⟨(readS (HS.S O) Z).1,ay,b0⟩]: List TV)),f0,d1,d5,(cw.trans (ef.trans (dj))),rfl,q.pk J,C,cf,(AllR.append b5 (AllR.cons br (AllR.nil _))),(reads_snoc ci dp J),(oks_snoc df dp j0),j0,(by rw [List.length_append,gx];rfl)⟩
     ·refine ai q J (wp_exit (az (az (aO (aa (wp_seq (ab (Lm J q fun a q=>?_))))))));refine lin J (am (vs:= [(iV V.kd),(iV V.a),(iV V.b),(iV V.c)]) T67 J q J (C.blkL 1 J) J (ah J) J fun a q=>?_);have g7:=c_step (C.tail [a1,a4]) cu (x:=V) c7 j0 j0;refine lin J (Co func32 q J (g7) ?_);rintro e w ⟨X,bf,bc,h9,bu,d0,i6,i3,cv,rfl,cj⟩;refine⟨_,rfl,fun a q=>?_⟩;have C:=C.frameR [a1,a4] cj;have db:=d0.di c7;have e9:=d0.fo dc;have hr:=hr.mono cj.le;have b8:=b8.mono cj.le;have b5:=b5.mono cj.le;refine wpList_nil (aa (wp_seq (ab (Lm J q fun a q=>?_))));have g8:=c_mall (C.tail [a1,a4]) cv j0 j0;refine lin J (Co func34 q J (g8) ?_);rintro e w ⟨e1,bx,bz,rfl,cd,ck⟩;refine⟨_,rfl,fun a q=>?_⟩;have C:=C.frameR [a1,a4] ck;have hr:=hr.mono ck.le;have b8:=b8.mono ck.le;have b5:=b5.mono ck.le;refine Ls J q fun a q=>?_;refine wpList_nil (aa (wp_seq (ab (Lm J q fun a q=>?_))));refine lin J (aJ T29.und q J J fun a q=>?_);refine Lm J q fun a q=>?_;refine wpList_nil (aa (wp_block ?_));rw [List.take_of_length_le j0] at ci df;refine a6 (fun cl a w=> ∃(c5: PHeap),∃(Y: Nat),Le e1 c5/\cl=(ws++bs).length - Y/\Has [] a 161 [(5,(pB b3)),(7,(pB bl)),(8,(.slice a9 ((ws++bs).length) av)),(9,(.slice b6 a3.length bh)),(14,(.slice bx ((bf++bc).length) bz)),(41,(.slice A xs.length c)),(42,(iV ((xs.length: Nat): Int))),(43,(iV ((k: Nat): Int))),(78,(.slice a9 ((ws++bs).length) av)),(79,(iV (((ws++bs).length: Nat): Int))),(80,(iV ((Y: Nat): Int)))]/\Step w0 H [] w c5 (a1::a4::bu)/\(Y<=(ws++bs).length)) _ ⟨e1,0,Le.refl _,rfl,q.pk J,C,j0⟩ ?_;intro ig a w O;obtain⟨c5,Y,c8,i8,q,C,i0⟩:=O;have hr:=hr.mono c8;have b8:=b8.mono c8;have b5:=b5.mono c8;have cd:=cd.mono c8;refine wp_seq (ab (lin J (bj (i:=((Y: Nat): Int)) (j:=(((ws++bs).length: Nat): Int)) q J J J fun a q=>?_)));refine wpList_nil (aa (wp_seq (al (t:=81) q J (fun f5 q=>?_) (fun f5 q=>?_))))
      ·refine ap q J (wp_skip (aa (wp_seq (wp_block (wp_seq (ab (Lm J q fun a q=>?_)))))));obtain⟨G,eu,h4,hq,hm,hx,c9,fc,fl,fq⟩:=b8.get (j:=Y) j5;refine lin J (aD (b:=eu) (o:=h4) (j:=Y) T29.und T34 fc q J J j0 j0 J fun a q=>?_);refine lin J (am (vs:=(wL G)) T34 J q J (C.blkH fl) J fq J fun a q=>?_);refine lin J (aF (cs:= #[(iV 0),(iV 0),(.string (⟨#[]⟩)),(.bool false)]) T34 C q J J fun cb a w C q=>?_);refine Ls J q fun a q=>?_;refine lin J (an (cs':=(wA G)) T34 C (i:=0) J q J J J J J J fun a w C q=>?_);refine wpList_nil (aa (wp_seq (ab (lin J (am (vs:=(wL G)) T34 J q J (C.blkL 0 J) J (ah J) J fun a q=>?_)))));refine lin J (aF (cs:= #[(iV 0),(iV 0),(.string (⟨#[]⟩)),(.bool false)]) T34 C q J J fun co a w C q=>?_);refine lin J (an (cs':=(wA G)) T34 C (i:=0) J q J J J J J J fun a w C q=>?_);let bw:=(eO co 34 #[(iV G.tag),(iV G.n),(.string G.s),(.bool (!G.one&&decide (4<=G.tag)))]);let K:=(eO cb 34 (wA G));refine wpList_nil (aa (seq_join (fun a w=> ∃(c6: PHeap),∃(ds: Bool),Le c5 c6/\Has [] a 161 [(5,(pB b3)),(7,(pB bl)),(8,(.slice a9 ((ws++bs).length) av)),(9,(.slice b6 a3.length bh)),(14,(.slice bx ((bf++bc).length) bz)),(15,(iV ((Y: Nat): Int))),(16,(pB cb)),(17,(pB co)),(41,(.slice A xs.length c)),(42,(iV ((xs.length: Nat): Int))),(43,(iV ((k: Nat): Int))),(78,(.slice a9 ((ws++bs).length) av)),(79,(iV (((ws++bs).length: Nat): Int))),(80,(iV ((Y: Nat): Int)))]/\Step w0 H [] w c6 ((eO co 34 #[(iV G.tag),(iV G.n),(.string G.s),(.bool ds)])::K::a1::a4::bu)/\(ds=(!G.one&&decide (4<=G.tag)))) ?_ ?_))
       ·refine ab (lin J (ac (f:=3) (o2:=3) T34 T4 J J J J q J J fun a q=>?_));refine lin J (af (v:=(.bool G.one)) T4 J q J (C.blkL 1 J) J J fun a q=>?_);refine lin J (aQ q J J fun a q=>?_);refine Lm J q fun a q=>?_;refine ar (t:=89) q J (fun d8 q=>?_) (fun d8 q=>?_)
        ·refine ad J q J J J (ac (f:=0) (o2:=0) T34 T3 J J J J q J J fun a q=>?_);refine ad J q J J J (af (v:=(iV G.tag)) T3 J q J (C.blkL 1 J) J J fun a q=>?_);refine ad J q J J J (cV (i:=G.tag) (j:=4) q J J J fun a q=>?_);refine lin J (ao q J J J fun a q=>?_);refine lin J (ac (f:=3) (o2:=3) T34 T4 J J J J q J J fun a q=>?_);refine lin J (an (cs':= #[(iV G.tag),(iV G.n),(.string G.s),(.bool (decide (4<=G.tag)))]) T4 C (i:=0) J q J J J J J J fun a w C q=>?_);refine wpList_nil (aa (?_));exact⟨c5,(decide (4<=G.tag)),(Le.refl _),q.pk J,C,(by simp [d8])⟩
        ·refine Lf J q J J fun a q=>?_;refine Lf J q J J fun a q=>?_;refine Lf J q J J fun a q=>?_;refine lin J (aj q J J J fun a q=>?_);refine lin J (ac (f:=3) (o2:=3) T34 T4 J J J J q J J fun a q=>?_);refine lin J (an (cs':= #[(iV G.tag),(iV G.n),(.string G.s),(.bool false)]) T4 C (i:=0) J q J J J J J J fun a w C q=>?_);refine wpList_nil (aa (?_));exact⟨c5,false,(Le.refl _),q.pk J,C,(by simp [d8])⟩
       ·intro a w dh;obtain⟨c6,ds,cc,q,C,gm⟩:=dh;have hr:=hr.mono cc;have b8:=b8.mono cc;have b5:=b5.mono cc;have cd:=cd.mono cc;subst gm;refine wp_seq (wp_seq (dW (w0:=w0) (H0:=H) (L0:= []) (H:=c6) (L:=(bw::K::a1::a4::bu)) (D:= []) (N:=161) (E:= [(5,(pB b3)),(7,(pB bl)),(8,(.slice a9 ((ws++bs).length) av)),(9,(.slice b6 a3.length bh)),(14,(.slice bx ((bf++bc).length) bz)),(15,(iV ((Y: Nat): Int))),(16,(pB cb)),(17,(pB co)),(41,(.slice A xs.length c)),(42,(iV ((xs.length: Nat): Int))),(43,(iV ((k: Nat): Int))),(78,(.slice a9 ((ws++bs).length) av)),(79,(iV (((ws++bs).length: Nat): Int))),(80,(iV ((Y: Nat): Int))),(104,(.bool ((!(decide (G ∈(bf++bc))))&&(!(decide ((Wd.mk G.tag G.n G.s (!G.one&&decide (4<=G.tag))) ∈(bf++bc)))))))]) (fun a w C q=>?_) ?_));rotate_left
        ·refine Lm J q fun a q=>?_;refine lin J (am (vs:=(wL G)) T34 J q J (C.blkL 1 J) J (ah J) J fun a q=>?_);have g9:=c_ContainsWd (yv:=G) C.inv.nil cd;refine lin J (Cs func35 q J (g9) C fun a w q C=>?_);refine lin J (aQ q J J fun a q=>?_);refine Lm J q fun a q=>?_;refine ar (t:=99) q J (fun d9 q=>?_) (fun d9 q=>?_)
         ·refine ad J q J J J (ak q J J fun a q=>?_);refine ad J q J J J (am (vs:= [(iV G.tag),(iV G.n),(.string G.s),(.bool (!G.one&&decide (4<=G.tag)))]) T34 J q J (C.blkL 0 J) J (ah J) J fun a q=>?_);have ga:=c_ContainsWd (yv:=(Wd.mk G.tag G.n G.s (!G.one&&decide (4<=G.tag)))) C.inv.nil cd;refine ad J q J J J (Co func35 q J (ga) ?_);rintro e w ⟨rfl,fm⟩;refine⟨_,rfl,fun a q=>?_⟩;have C:=C.call fm;refine ad J q J J J (aQ q J J fun a q=>?_);refine lin J (ao q J J J fun a q=>?_);have g0:((!(decide (G ∈(bf++bc))))&&(!(decide ((Wd.mk G.tag G.n G.s (!G.one&&decide (4<=G.tag))) ∈(bf++bc)))))=(!(decide ((Wd.mk G.tag G.n G.s (!G.one&&decide (4<=G.tag))) ∈(bf++bc)))):=by
           try rw [d9]
           rfl
          exact wpList_nil ⟨rfl,C,Has.cons q J (Has.cons q J (Has.cons q J (Has.cons q J (Has.cons q J (Has.cons q J (Has.cons q J (Has.cons q J (Has.cons q J (Has.cons q J (Has.cons q J (Has.cons q J (Has.cons q J (Has.cons q J (Has.cons q (by rw [g0];rfl) (q.nil)))))))))))))))⟩
         ·refine Lf J q J J fun a q=>?_;refine Lf J q J J fun a q=>?_;refine Lf J q J J fun a q=>?_;refine Lf J q J J fun a q=>?_;refine lin J (aj q J J J fun a q=>?_);have g1:((!(decide (G ∈(bf++bc))))&&(!(decide ((Wd.mk G.tag G.n G.s (!G.one&&decide (4<=G.tag))) ∈(bf++bc)))))=false:=by
           try rw [d9]
           rfl
          exact wpList_nil ⟨rfl,C,Has.cons q J (Has.cons q J (Has.cons q J (Has.cons q J (Has.cons q J (Has.cons q J (Has.cons q J (Has.cons q J (Has.cons q J (Has.cons q J (Has.cons q J (Has.cons q J (Has.cons q J (Has.cons q J (Has.cons q (by rw [g1];rfl) (q.nil)))))))))))))))⟩
        refine aa (ar (t:=104) q J (fun e7 q=>?_) (fun e7 q=>?_))
        ·refine ap q J (wp_exit (az (aO (aa (ab (lin J (aN (i:=((Y: Nat): Int)) (j:=1) q J J J j0 fun a q=>?_)))))));refine Lm J q fun a q=>?_;refine wpList_nil (aa (?_));have C:=C.fd [0,0] J;exact⟨(ws++bs).length - (Y+1),by omega,c6,(Y+1),(c8.trans (cc)),rfl,q.pk J,C,j0⟩
        ·have cz:=not_neither e7;refine ai q J (wp_skip (aa (wp_seq ?_)));have ch:=C;refine As.c_draw_head (ini:=(As.il [])) (sup:=(As.sl [(9,10)])) (als:= [9,10]) (s0:=⟨c6,fun _=>none⟩) (L:=(bw::K::a1::a4::bu)) (N:=161) (E:= [(5,(pB b3)),(7,(pB bl)),(8,(.slice a9 ((ws++bs).length) av)),(9,(.slice b6 a3.length bh)),(14,(.slice bx ((bf++bc).length) bz)),(15,(iV ((Y: Nat): Int))),(16,(pB cb)),(41,(.slice A xs.length c)),(42,(iV ((xs.length: Nat): Int))),(43,(iV ((k: Nat): Int))),(78,(.slice a9 ((ws++bs).length) av)),(79,(iV (((ws++bs).length: Nat): Int))),(80,(iV ((Y: Nat): Int)))]) 11 [FcV (pB b3),FcV (pB b3),FcV (pB b3),FcV (pB cn),FcV (.agg (wA G)),As.lf (fun H v=> ∃ A c,v=(.tuple #[(tv ((readS (HS.S X) G).1) A c),(iV ((readS (HS.S X) G).2))])/\RowT H A c ((readS (HS.S X) G).1.l)),As.lf (fun H v=> ∃ A c,v=(.tuple #[(tv ((readS (HS.S X) G).1) A c),(iV ((readS (HS.S X) G).2))])/\RowT H A c ((readS (HS.S X) G).1.l)),As.lf (fun H v=> ∃ A c,v=(tv ((readS (HS.S X) G).1) A c)/\RowT H A c ((readS (HS.S X) G).1.l)),FcV (iV ((readS (HS.S X) G).2)),fun s v=> ∃ b,s.ax 9=some [(some b,(.cells aZ 46 (0,0)))]/\v=.pointer (some ⟨b,0,none⟩),fun s _=> ∃(b: Nat) (A: Option Addr) (c: Nat),s.ax 9=some [(some b,(.cells aZ 46 (0,0)))]/\s.ax 10=some [(eO b 46 (tA ((readS (HS.S X) G).1) A c))]/\RowT s.H A c ((readS (HS.S X) G).1.l)] mixed j1 j1 j1 j9 (fun _=>rfl) C (q.pk J) (As.QuietsI.c4 ?_ ?_ ?_ ?_ (As.QuietsI.c4 ?_ ?_ ?_ ?_ (As.QuietsI.c2 ?_ ?_ (As.QuietsI.cons ?_ (As.QuietsI.nil))))) (fun f1 a w dt a8 C q b7=>?_)
         ·refine As.Qx J fun a w M T I a2 C q F a8=>?_;have a0:=C;exact ak q J J fun a q=>As.ql q a0
         ·refine As.Qx1 0 J fun a w M T I a2 C q F a8=>?_;have a0:=C;exact aB q J J fun a q=>As.ql q a0
         ·refine As.Qx1 1 J fun a w M T I a2 C q F a8=>?_;have a0:=C;exact ac (f:=0) (o2:=0) T70 T24 J J J J q J J fun a q=>As.ql q a0
         ·refine As.Qx1 2 J fun a w M T I a2 C q F a8=>?_;have a0:=C;have C:=Step.dropN _ _ C;obtain⟨em,gy,ev,eo,gz,ew,dn⟩:=HM.blk cv;have dm:=C.inv.own _ (bJ [bw,K,a1,a4] dn) b3 J;exact af (v:=(pB cn)) T24 J q J dm J J fun a q=>As.ql q a0
         ·refine As.Qx J fun a w M T I a2 C q F a8=>?_;have a0:=C;have C:=Step.dropN _ _ C;exact am (vs:=(wL G)) T34 J q J (C.blkL 1 J) J (ah J) J fun a q=>As.ql q a0
         ·refine As.Qx1 3 J fun a w M T I a2 C q F a8=>?_;obtain⟨_,q,rfl⟩:=F.g q 4 J;have a0:=C;have fi:=Step.dropN _ _ C;have C:=Step.perm C (List.Perm.of_eq (List.append_assoc (As.aents (As.il []) (As.sl [(9,10)]) [9,10] T) [bw,K,a1,a4] bu).symm);have gb:=c_mRead (C.tail ((As.aents (As.il []) (As.sl [(9,10)]) [9,10] T)++ [bw,K,a1,a4])) cv (x:=G);refine id (Co func20 q J (gb) ?_);rintro e w ⟨ha,b1,b2,rfl,b9,ed⟩;refine⟨_,rfl,fun a q=>?_⟩;have C:=C.frameR ((As.aents (As.il []) (As.sl [(9,10)]) [9,10] T)++ [bw,K,a1,a4]) ed;have C:=Step.perm C (List.Perm.of_eq (List.append_assoc (As.aents (As.il []) (As.sl [(9,10)]) [9,10] T) [bw,K,a1,a4] bu));exact As.qdone (s:=⟨M,T⟩) ed.le q C ⟨b1,b2,rfl,b9⟩
         ·refine As.Qx J fun a w M T I a2 C q F a8=>?_;obtain⟨_,q,b1,b2,rfl,b9⟩:=F.g q 5 J;have a0:=C;refine id (ak q J J fun a q=>?_);exact As.qdone (s:=⟨M,T⟩) (Le.refl _) q a0 ⟨b1,b2,rfl,b9⟩
         ·refine As.Qx J fun a w M T I a2 C q F a8=>?_;obtain⟨_,q,b1,b2,rfl,b9⟩:=F.g q 6 J;have a0:=C;refine id (ae (v:=(tv ((readS (HS.S X) G).1) b1 b2)) q J J J fun a q=>?_);exact As.qdone (s:=⟨M,T⟩) (Le.refl _) q a0 ⟨b1,b2,rfl,b9⟩
         ·refine As.Qx J fun a w M T I a2 C q F a8=>?_;obtain⟨_,q,b1,b2,rfl,b9⟩:=F.g q 6 J;have a0:=C;exact ae (v:=(iV ((readS (HS.S X) G).2))) q J J J fun a q=>As.ql q a0
         ·refine As.Qx J fun a w M T I a2 C q F a8=>?_;have C: Step w0 H [] w M ((As.aents (As.il []) (As.sl [(9,10)]) [] T++As.aents (As.il []) (As.sl [(9,10)]) [10] T++(bw::K::a1::a4::bu))):=As.opn (s:=⟨M,T⟩) [] [9] [10] [] J (As.con0 a2 J) C;refine aF (cs:=aZ) T46 C q J J fun ba a w C q=>?_;exact As.qown (i:=9) (dst:=some 18) (s:=⟨M,T⟩) (E:= [(some ba,(.cells aZ 46 (0,0)))]) [] [9] [10] J J a2 (Le.refl _) q.dfr (As.has_at q) C As.con1 ⟨ba,rfl,rfl⟩
         ·refine As.Qx J fun a w M T I a2 C q F a8=>?_;obtain⟨_,q,ba,c1,rfl⟩:=F.g q 9 J;have c1: T 9=some [(some ba,(.cells aZ 46 (0,0)))]:=c1;obtain⟨_,q,b1,b2,rfl,b9⟩:=F.g q 7 J;have C: Step w0 H [] w M ((some ba,(.cells aZ 46 (0,0)))::(As.aents (As.il []) (As.sl [(9,10)]) [] T++As.aents (As.il []) (As.sl [(9,10)]) [] T++(bw::K::a1::a4::bu))):=As.opn (s:=⟨M,T⟩) [] [9,10] [] [(some ba,(.cells aZ 46 (0,0)))] J (As.con2 J J J c1 a2) C;refine id (an (cs':=(tA ((readS (HS.S X) G).1) b1 b2)) T46 C (i:=0) J q J J J J J J fun a w C q=>?_);exact As.qown (i:=10) (dst:=none) (s:=⟨M,T⟩) (E:= [(eO ba 46 (tA ((readS (HS.S X) G).1) b1 b2))]) [] [9,10] [] J J a2 (Le.refl _) q.dfr (v:=undef) (fun _ h=>by cases h) C (.inl (As.con2' J J)) ⟨ba,b1,b2,c1,rfl,b9⟩
         obtain⟨ce,T⟩:=dt;have cx: Le c6 ce:=a8.le;dsimp only at b7 C;have hr:=hr.mono cx;have b8:=b8.mono cx;have b5:=b5.mono cx;obtain⟨_,q,rfl⟩:=As.Dd q b7 8 J;obtain⟨_,q,ba,c1,rfl⟩:=As.Dd q b7 9 J;have c1: T 9=some [(some ba,(.cells aZ 46 (0,0)))]:=c1;obtain⟨_,gw,el,b1,b2,gr,dr,b9⟩:=b7 10 _ _ J J;have dr: T 10=some [(eO el 46 (tA ((readS (HS.S X) G).1) b1 b2))]:=dr;obtain rfl: ba=el:=by have bq:=(c1).symm.trans gr;simpa using bq
         have C: Step w0 H [] w ce ((eO ba 46 (tA ((readS (HS.S X) G).1) b1 b2))::bw::K::a1::a4::bu):=by
          have bq:=C;unfold As.aents at bq;simp only [List.flatMap_cons,List.flatMap_nil,As.conE,show (As.sl [(9,10)]) 9=some 10 from rfl,show (As.sl [(9,10)]) 10=none from rfl,c1,dr,Option.isSome_some,Option.getD_some,cond_true,cond_false,List.cons_append,List.nil_append,List.append_nil] at bq;exact bq
         refine any1 (i:=11) j1 J J (aG q J J fun a q=>?_);refine any0 j1 ?_;refine aa (wp_seq (wp_seq (ab (Lm J q fun a q=>?_))));refine lin J (bC (i:=((readS (HS.S X) G).2)) (j:=0) q J J J fun a q=>?_);refine wpList_nil (aa (aM (t:=115) q J (fun f8 q=>?_) (fun f8 q=>?_)))
         ·refine ap q J (wp_seq (ab (Lm J q fun a q=>?_)));refine lin J (aW (i:=((readS (HS.S X) G).2)) (j:=2) q J J J fun a q=>?_);refine Ls J q fun a q=>?_;refine wpList_nil (aa (wp_ret (ag (aw (ag (ag (aw (aw (ag (ag (aw (ag (ret1 J q J ?_)))))))))))));rw [show (decide (((readS (HS.S X) G).2)=2))=true from decide_eq_true ((read_err (c7.still db (List.mem_of_getElem? c9) cz)).resolve_left (by assumption))];exact⟨_,rfl,C.drop_all⟩
         ·refine ai q J (wp_skip (aa (wp_seq (ab (lin J (ac (f:=0) (o2:=0) T67 T3 J J J J q J J fun a q=>?_))))));refine lin J (af (v:=(iV V.kd)) T3 J q J (C.blkL 4 J) J J fun a q=>?_);have gc:=cG (k:=V.kd) (n:=9) C.inv.nil j0;refine lin J (Cs func11 q J (gc) C fun a w q C=>?_);refine lin J (aW (i:=(ixZ V.kd 9)) (j:=3) q J J J fun a q=>?_);refine Ls J q fun a q=>?_;refine wpList_nil (aa (wp_seq ?_));have d6:=df G (List.mem_of_getElem? c9);have d7:(readS (HS.S X) G).2=0:=by omega
          have gn:=eF c7 dc (w:=G) (Prod.ext J d6);have go:=eF db e9 (w:=G) (Prod.ext J d7);refine seq_join (fun a w=> ∃(d2: PHeap),∃(tb: Bool),Le ce d2/\Has [] a 161 [(5,(pB b3)),(7,(pB bl)),(8,(.slice a9 ((ws++bs).length) av)),(9,(.slice b6 a3.length bh)),(14,(.slice bx ((bf++bc).length) bz)),(15,(iV ((Y: Nat): Int))),(18,(pB ba)),(20,(.bool (decide ((ixZ V.kd 9)=3)))),(41,(.slice A xs.length c)),(42,(iV ((xs.length: Nat): Int))),(43,(iV ((k: Nat): Int))),(78,(.slice a9 ((ws++bs).length) av)),(79,(iV (((ws++bs).length: Nat): Int))),(80,(iV ((Y: Nat): Int))),(139,(.bool tb))]/\Step w0 H [] w d2 ((eO ba 46 (tA ((readS (HS.S X) G).1) b1 b2))::a1::a4::bu)/\(tb=false)) ?_ ?_
          ·let e2:List (Nat×Value):=[(5,(pB b3)),(7,(pB bl)),(8,(.slice a9 ((ws++bs).length) av)),(9,(.slice b6 a3.length bh)),(14,(.slice bx ((bf++bc).length) bz)),(15,(iV ((Y: Nat): Int))),(16,(pB cb)),(18,(pB ba)),(20,(.bool (decide ((ixZ V.kd 9)=3)))),(41,(.slice A xs.length c)),(42,(iV ((xs.length: Nat): Int))),(43,(iV ((k: Nat): Int))),(78,(.slice a9 ((ws++bs).length) av)),(79,(iV (((ws++bs).length: Nat): Int))),(80,(iV ((Y: Nat): Int)))];by_cases bp:(ixZ V.kd 9)=3
           ·have ch:=C;refine bH bD [FcV (.bool true),FcV (.bool false),FcV (.bool false),FcV undef,FcV undef,FcV undef,FcV undef,FcV undef,FcV undef,FcV undef,FcV (.bool false),FcV (.bool false),FcV undef,FcV undef,FcV undef,FcV undef,FcV undef,FcV (.bool false)] (N:=161) (E:= e2) mixed j1 j7 C (q.pk J) (.c4 ?_ ?_ ?_ ?_ (.c4 ?_ ?_ ?_ ?_ (.c4 ?_ ?_ ?_ ?_ (.c4 ?_ ?_ ?_ ?_ (.c2 ?_ ?_ (.nil)))))) (fun a w hb gi C q b7=>?_)
            ·refine Qz J fun a w C q F=>?_;refine id (ak q J J fun a q=>?_);exact qdone J q C (by first |(rw [decide_eq_true bp] <;> rfl) |(rw [decide_eq_false bp] <;> rfl) |(rw [bp] <;> rfl) | simp [bp])
            ·refine Qz1 0 J fun a w C q F=>?_;exact aQ q J J fun a q=>qe q C
            ·refine Qz1 1 J fun a w C q F=>?_;exact ak q J J fun a q=>qe q C
            ·intro a w M I C q F;subst I;obtain⟨_,q,rfl⟩:=F.g q 2 J;rw [if_neg (au J J q J J J)];intro d bi;rfl
            ·intro a w M I C q F;subst I;obtain⟨_,q,rfl⟩:=F.g q 2 J;rw [if_neg (au J J q J J J)];intro d bi;rfl
            ·intro a w M I C q F;subst I;obtain⟨_,q,rfl⟩:=F.g q 2 J;rw [if_neg (au J J q J J J)];intro d bi;rfl
            ·intro a w M I C q F;subst I;obtain⟨_,q,rfl⟩:=F.g q 4 J;obtain⟨_,q,rfl⟩:=F.g q 5 J;obtain⟨_,q,rfl⟩:=F.g q 2 J;rw [if_neg (au J J q J J J)];intro d bi;rfl
            ·intro a w M I C q F;subst I;obtain⟨_,q,rfl⟩:=F.g q 6 J;obtain⟨_,q,rfl⟩:=F.g q 2 J;rw [if_neg (au J J q J J J)];intro d bi;rfl
            ·intro a w M I C q F;subst I;obtain⟨_,q,rfl⟩:=F.g q 3 J;obtain⟨_,q,rfl⟩:=F.g q 7 J;obtain⟨_,q,rfl⟩:=F.g q 2 J;rw [if_neg (au J J q J J J)];intro d bi;rfl
            ·intro a w M I C q F;subst I;obtain⟨_,q,rfl⟩:=F.g q 8 J;obtain⟨_,q,rfl⟩:=F.g q 2 J;rw [if_neg (au J J q J J J)];intro d bi;rfl
            ·refine Qz1 2 J fun a w C q F=>?_;obtain⟨_,q,rfl⟩:=F.g q 9 J;exact aj q J J J fun a q=>qe q C
            ·refine Qz1 10 J fun a w C q F=>?_;exact ak q J J fun a q=>qe q C
            ·intro a w M I C q F;subst I;obtain⟨_,q,rfl⟩:=F.g q 11 J;rw [if_neg (au J J q J J J)];intro d bi;rfl
            ·intro a w M I C q F;subst I;obtain⟨_,q,rfl⟩:=F.g q 11 J;rw [if_neg (au J J q J J J)];intro d bi;rfl
            ·intro a w M I C q F;subst I;obtain⟨_,q,rfl⟩:=F.g q 11 J;rw [if_neg (au J J q J J J)];intro d bi;rfl
            ·intro a w M I C q F;subst I;obtain⟨_,q,rfl⟩:=F.g q 12 J;obtain⟨_,q,rfl⟩:=F.g q 13 J;obtain⟨_,q,rfl⟩:=F.g q 14 J;obtain⟨_,q,rfl⟩:=F.g q 11 J;rw [if_neg (au J J q J J J)];intro d bi;rfl
            ·intro a w M I C q F;subst I;obtain⟨_,q,rfl⟩:=F.g q 15 J;obtain⟨_,q,rfl⟩:=F.g q 11 J;rw [if_neg (au J J q J J J)];intro d bi;rfl
            ·refine Qz1 11 J fun a w C q F=>?_;obtain⟨_,q,rfl⟩:=F.g q 16 J;exact aj q J J J fun a q=>qe q C
            subst gi;obtain⟨_,q,rfl⟩:=Dd q b7 17 J;refine aa (?_);have C:=C.fd [2,0,2,0] J;exact⟨ce,false,(Le.refl _),q.pk J,C,rfl⟩
           ·by_cases a5:(!(eqT ((readS (HS.S X) G).1) ((readS (HS.S O) G).1)))=true
            ·have ch:=C;obtain⟨⟨h5,du,e4⟩,cp,hg,ex,eh,gt,fw,ft⟩:=cg.get (j:=Y) j0;have fe:(b6: Option Addr)=some ⟨cp,0,none⟩:=by injection gt
             have dk:=b5 _ (List.mem_of_getElem? eh);obtain rfl: h5=(readS (HS.S O) G).1:=fy ci c9 eh;refine bH rel_le [FcV (.bool false),FcV (.bool true),FcV (.bool true),FcV (tv ((readS (HS.S X) G).1) b1 b2),FcV (.slice b6 a3.length bh),FcV (iV ((Y: Nat): Int)),FcV (.pointer (some ⟨cp,0+Y * 4,none⟩)),FcV (tv ((readS (HS.S O) G).1) du e4),FcV (.bool (eqT ((readS (HS.S X) G).1) ((readS (HS.S O) G).1))),FcV (.bool true),FcV (.bool true),FcV (.bool true),FcV (.agg (wA G)),FcV (.agg #[(iV V.kd),(iV V.a),(iV V.b),(iV V.c)]),fun H v=> ∃ A c,v=.slice A (ws++bs).length c/\RowG 4 Wd.cells H A c (ws++bs),FcV (.bool (reB G V)),FcV (.bool (!(reB G V))),FcV (.bool (!(reB G V)))] (N:=161) (E:= e2) mixed j1 j7 C (q.pk J) (.c4 ?_ ?_ ?_ ?_ (.c4 ?_ ?_ ?_ ?_ (.c4 ?_ ?_ ?_ ?_ (.c4 ?_ ?_ ?_ ?_ (.c2 ?_ ?_ (.nil)))))) (fun a w ep gj C q b7=>?_)
             ·refine Qy J fun a w M I C q F=>?_;refine id (ak q J J fun a q=>?_);exact qdone (Le.refl _) q C (by first |(rw [decide_eq_true bp] <;> rfl) |(rw [decide_eq_false bp] <;> rfl) |(rw [bp] <;> rfl) | simp [bp])
             ·refine Qy1 0 J fun a w M I C q F=>?_;exact aQ q J J fun a q=>ql q C
             ·refine Qy1 1 J fun a w M I C q F=>?_;exact ak q J J fun a q=>ql q C
             ·refine Qg 2 J fun a w M I C q F=>?_;exact am (vs:=(tL ((readS (HS.S X) G).1) b1 b2)) T46 J q J (C.blkL 0 J) J (ah J) J fun a q=>ql q C
             ·refine Qg 2 J fun a w M I C q F=>?_;exact ak q J J fun a q=>ql q C
             ·refine Qg 2 J fun a w M I C q F=>?_;exact ak q J J fun a q=>ql q C
             ·refine Qg 2 J fun a w M I C q F=>?_;obtain⟨_,q,rfl⟩:=F.g q 4 J;obtain⟨_,q,rfl⟩:=F.g q 5 J;exact aD (b:=cp) (o:=0) (j:=Y) T44.und T46 fe q J J j0 j0 J fun a q=>ql q C
             ·refine Qg 2 J fun a w M I C q F=>?_;obtain⟨_,q,rfl⟩:=F.g q 6 J;exact am (vs:=(tL ((readS (HS.S O) G).1) du e4)) T46 J q J (C.blkL 3 (b:=cp) (o:=.cells ex 46 (0,0)) (by rw [<- fw];rfl)) J ft J fun a q=>ql q C
             ·refine Qg 2 J fun a w M I C q F=>?_;obtain⟨_,q,rfl⟩:=F.g q 3 J;obtain⟨_,q,rfl⟩:=F.g q 7 J;have b9:=b9.mono I;have dk:=dk.mono I;have gd:=c_sameTerms (ta:=((readS (HS.S X) G).1)) (tb:=((readS (HS.S O) G).1)) C.inv.nil b9 dk;exact Cs func22 q J (gd) C fun a w q C=>ql q C
             ·refine Qg 2 J fun a w M I C q F=>?_;obtain⟨_,q,rfl⟩:=F.g q 8 J;refine id (aQ q J J fun a q=>?_);exact qdone (Le.refl _) q C (by first |(rw [decide_eq_true a5] <;> rfl) |(rw [decide_eq_false a5] <;> rfl) |(rw [a5] <;> rfl) | simp [a5])
             ·refine Qy1 2 J fun a w M I C q F=>?_;obtain⟨_,q,rfl⟩:=F.g q 9 J;refine id (ao q J J J fun a q=>?_);exact qdone (Le.refl _) q C (by first |(rw [decide_eq_true a5] <;> rfl) |(rw [decide_eq_false a5] <;> rfl) |(rw [a5] <;> rfl) | simp [a5])
             ·refine Qy1 10 J fun a w M I C q F=>?_;refine id (ak q J J fun a q=>?_);exact qdone (Le.refl _) q C (by first |(rw [decide_eq_true a5] <;> rfl) |(rw [decide_eq_false a5] <;> rfl) |(rw [a5] <;> rfl) | simp [a5])
             ·refine Qg 11 J fun a w M I C q F=>?_;exact am (vs:=(wL G)) T34 J q J (C.blkL 2 J) J (ah J) J fun a q=>ql q C
             ·refine Qg 11 J fun a w M I C q F=>?_;exact am (vs:= [(iV V.kd),(iV V.a),(iV V.b),(iV V.c)]) T67 J q J (C.blkL 4 J) J (ah J) J fun a q=>ql q C
             ·refine Qg 11 J fun a w M I C q F=>?_;have b8:=b8.mono I;refine id (ak q J J fun a q=>?_);exact qdone (Le.refl _) q C ⟨_,_,rfl,b8⟩
             ·refine Qg 11 J fun a w M I C q F=>?_;obtain⟨_,q,rfl⟩:=F.g q 12 J;obtain⟨_,q,rfl⟩:=F.g q 13 J;obtain⟨_,q,a9,av,rfl,b8⟩:=F.g q 14 J;have ge:=c_reused (yw:=G) (x:=V) (A:=a9) (n:=(ws++bs).length) (c:=av) C.inv.nil;exact Cs func36 q J (ge) C fun a w q C=>ql q C
             ·refine Qg 11 J fun a w M I C q F=>?_;obtain⟨_,q,rfl⟩:=F.g q 15 J;exact aQ q J J fun a q=>ql q C
             ·refine Qy1 11 J fun a w M I C q F=>?_;obtain⟨_,q,rfl⟩:=F.g q 16 J;exact ao q J J J fun a q=>ql q C
             obtain⟨_,q,rfl⟩:=Dd q b7 17 J;refine aa (?_);have C:=C.fd [2,0,2,0] J;exact⟨ep,(!(reB G V)),(gj),q.pk J,C,(by
              cases hr_: reB G V with
              | true=>rfl
              | false=>exact absurd a5 (by rw [d0.keeps c7 (List.mem_of_getElem? c9) bp d6 d7 hr_];decide))⟩
            ·have ch:=C;obtain⟨⟨h6,dv,e5⟩,cq,hh,ey,ei,gu,fx,fu⟩:=cg.get (j:=Y) j0;have ff:(b6: Option Addr)=some ⟨cq,0,none⟩:=by injection gu
             have gp:=b5 _ (List.mem_of_getElem? ei);obtain rfl: h6=(readS (HS.S O) G).1:=fy ci c9 ei;refine bH bD [FcV (.bool false),FcV (.bool true),FcV (.bool true),FcV (tv ((readS (HS.S X) G).1) b1 b2),FcV (.slice b6 a3.length bh),FcV (iV ((Y: Nat): Int)),FcV (.pointer (some ⟨cq,0+Y * 4,none⟩)),FcV (tv ((readS (HS.S O) G).1) dv e5),FcV (.bool (eqT ((readS (HS.S X) G).1) ((readS (HS.S O) G).1))),FcV (.bool false),FcV (.bool false),FcV (.bool false),FcV undef,FcV undef,FcV undef,FcV undef,FcV undef,FcV (.bool false)] (N:=161) (E:= [(5,(pB b3)),(7,(pB bl)),(8,(.slice a9 ((ws++bs).length) av)),(9,(.slice b6 a3.length bh)),(14,(.slice bx ((bf++bc).length) bz)),(15,(iV ((Y: Nat): Int))),(16,(pB cb)),(18,(pB ba)),(20,(.bool (decide ((ixZ V.kd 9)=3)))),(41,(.slice A xs.length c)),(42,(iV ((xs.length: Nat): Int))),(43,(iV ((k: Nat): Int))),(78,(.slice a9 ((ws++bs).length) av)),(79,(iV (((ws++bs).length: Nat): Int))),(80,(iV ((Y: Nat): Int)))]) mixed j1 j7 C (q.pk J) (.c4 ?_ ?_ ?_ ?_ (.c4 ?_ ?_ ?_ ?_ (.c4 ?_ ?_ ?_ ?_ (.c4 ?_ ?_ ?_ ?_ (.c2 ?_ ?_ (.nil)))))) (fun a w hc gk C q b7=>?_)
             ·refine Qz J fun a w C q F=>?_;refine id (ak q J J fun a q=>?_);exact qdone J q C (by first |(rw [decide_eq_true bp] <;> rfl) |(rw [decide_eq_false bp] <;> rfl) |(rw [bp] <;> rfl) | simp [bp])
             ·refine Qz1 0 J fun a w C q F=>?_;exact aQ q J J fun a q=>qe q C
             ·refine Qz1 1 J fun a w C q F=>?_;exact ak q J J fun a q=>qe q C
             ·intro a w M I C q F;subst I;obtain⟨_,q,rfl⟩:=F.g q 2 J;rw [if_pos (aC J q J J J)];exact am (vs:=(tL ((readS (HS.S X) G).1) b1 b2)) T46 J q J (C.blkL 0 J) J (ah J) J fun a q=>qe q C
             ·intro a w M I C q F;subst I;obtain⟨_,q,rfl⟩:=F.g q 2 J;rw [if_pos (aC J q J J J)];exact ak q J J fun a q=>qe q C
             ·intro a w M I C q F;subst I;obtain⟨_,q,rfl⟩:=F.g q 2 J;rw [if_pos (aC J q J J J)];exact ak q J J fun a q=>qe q C
             ·intro a w M I C q F;subst I;obtain⟨_,q,rfl⟩:=F.g q 4 J;obtain⟨_,q,rfl⟩:=F.g q 5 J;obtain⟨_,q,rfl⟩:=F.g q 2 J;rw [if_pos (aC J q J J J)];exact aD (b:=cq) (o:=0) (j:=Y) T44.und T46 ff q J J j0 j0 J fun a q=>qe q C
             ·intro a w M I C q F;subst I;obtain⟨_,q,rfl⟩:=F.g q 6 J;obtain⟨_,q,rfl⟩:=F.g q 2 J;rw [if_pos (aC J q J J J)];exact am (vs:=(tL ((readS (HS.S O) G).1) dv e5)) T46 J q J (C.blkL 3 (b:=cq) (o:=.cells ey 46 (0,0)) (by rw [<- fx];rfl)) J fu J fun a q=>qe q C
             ·intro a w M I C q F;subst I;obtain⟨_,q,rfl⟩:=F.g q 3 J;obtain⟨_,q,rfl⟩:=F.g q 7 J;obtain⟨_,q,rfl⟩:=F.g q 2 J;rw [if_pos (aC J q J J J)];have gg:=c_sameTerms (ta:=((readS (HS.S X) G).1)) (tb:=((readS (HS.S O) G).1)) C.inv.nil b9 gp;exact Cs func22 q J (gg) C fun a w q C=>qe q C
             ·intro a w M I C q F;subst I;obtain⟨_,q,rfl⟩:=F.g q 8 J;obtain⟨_,q,rfl⟩:=F.g q 2 J;rw [if_pos (aC J q J J J)];refine id (aQ q J J fun a q=>?_);exact qdone J q C (by first |(rw [decide_eq_true a5] <;> rfl) |(rw [decide_eq_false a5] <;> rfl) |(rw [a5] <;> rfl) | simp [a5])
             ·refine Qz1 2 J fun a w C q F=>?_;obtain⟨_,q,rfl⟩:=F.g q 9 J;refine id (ao q J J J fun a q=>?_);exact qdone J q C (by first |(rw [decide_eq_true a5] <;> rfl) |(rw [decide_eq_false a5] <;> rfl) |(rw [a5] <;> rfl) | simp [a5])
             ·refine Qz1 10 J fun a w C q F=>?_;refine id (ak q J J fun a q=>?_);exact qdone J q C (by first |(rw [decide_eq_true a5] <;> rfl) |(rw [decide_eq_false a5] <;> rfl) |(rw [a5] <;> rfl) | simp [a5])
             ·intro a w M I C q F;subst I;obtain⟨_,q,rfl⟩:=F.g q 11 J;rw [if_neg (au J J q J J J)];intro d bi;rfl
             ·intro a w M I C q F;subst I;obtain⟨_,q,rfl⟩:=F.g q 11 J;rw [if_neg (au J J q J J J)];intro d bi;rfl
             ·intro a w M I C q F;subst I;obtain⟨_,q,rfl⟩:=F.g q 11 J;rw [if_neg (au J J q J J J)];intro d bi;rfl
             ·intro a w M I C q F;subst I;obtain⟨_,q,rfl⟩:=F.g q 12 J;obtain⟨_,q,rfl⟩:=F.g q 13 J;obtain⟨_,q,rfl⟩:=F.g q 14 J;obtain⟨_,q,rfl⟩:=F.g q 11 J;rw [if_neg (au J J q J J J)];intro d bi;rfl
             ·intro a w M I C q F;subst I;obtain⟨_,q,rfl⟩:=F.g q 15 J;obtain⟨_,q,rfl⟩:=F.g q 11 J;rw [if_neg (au J J q J J J)];intro d bi;rfl
             ·refine Qz1 11 J fun a w C q F=>?_;obtain⟨_,q,rfl⟩:=F.g q 16 J;exact aj q J J J fun a q=>qe q C
             subst gk;obtain⟨_,q,rfl⟩:=Dd q b7 17 J;refine aa (?_);have C:=C.fd [2,0,2,0] J;exact⟨ce,false,(Le.refl _),q.pk J,C,rfl⟩
          ·intro a w dh;obtain⟨d2,tb,cy,q,C,gs⟩:=dh;have hr:=hr.mono cy;have b5:=b5.mono cy;have b9:=b9.mono cy;subst gs;refine ai q J (wp_skip (aa (wp_seq ?_)));have ch:=C;obtain⟨⟨h7,dw,e6⟩,cr,hi,ez,ej,gv,fz,fv⟩:=cg.get (j:=Y) j0;have fg:(b6: Option Addr)=some ⟨cr,0,none⟩:=by injection gv
           have dl:=b5 _ (List.mem_of_getElem? ej);obtain rfl: h7=(readS (HS.S O) G).1:=fy ci c9 ej;refine bH rel_le [FcV (.slice b6 a3.length bh),FcV (iV ((Y: Nat): Int)),FcV (.pointer (some ⟨cr,0+Y * 4,none⟩)),FcV (tv ((readS (HS.S O) G).1) dw e6),FcV (tv ((readS (HS.S X) G).1) b1 b2),fun (_: PHeap) v=> ∃(A: Option Addr) (m c: Nat) (b: Bool),v=(.tuple #[.slice A m c,.bool b,.int .i64 0])/\((∃(a: Int) (U: Tm),sbT a U ((readS (HS.S O) G).1)=((readS (HS.S X) G).1))->b=true),fun (_: PHeap) v=> ∃(A: Option Addr) (m c: Nat) (b: Bool),v=(.tuple #[.slice A m c,.bool b,.int .i64 0])/\((∃(a: Int) (U: Tm),sbT a U ((readS (HS.S O) G).1)=((readS (HS.S X) G).1))->b=true),fun (_: PHeap) v=> ∃(A: Option Addr) (m c: Nat) (b: Bool),v=(.slice A m c)/\((∃(a: Int) (U: Tm),sbT a U ((readS (HS.S O) G).1)=((readS (HS.S X) G).1))->b=true),fun (_: PHeap) v=> ∃(A: Option Addr) (m c: Nat) (b: Bool),v=(.bool b)/\((∃(a: Int) (U: Tm),sbT a U ((readS (HS.S O) G).1)=((readS (HS.S X) G).1))->b=true),FcV (iV 0),fun (_: PHeap) v=> ∃(A: Option Addr) (m c: Nat) (b: Bool),v=(.slice A m c)/\((∃(a: Int) (U: Tm),sbT a U ((readS (HS.S O) G).1)=((readS (HS.S X) G).1))->b=true),fun (_: PHeap) v=> ∃(A: Option Addr) (m c: Nat) (b: Bool),v=(.bool b)/\((∃(a: Int) (U: Tm),sbT a U ((readS (HS.S O) G).1)=((readS (HS.S X) G).1))->b=true),FcV (iV 0)] (N:=161) (E:= [(5,(pB b3)),(7,(pB bl)),(8,(.slice a9 ((ws++bs).length) av)),(9,(.slice b6 a3.length bh)),(14,(.slice bx ((bf++bc).length) bz)),(15,(iV ((Y: Nat): Int))),(18,(pB ba)),(20,(.bool (decide ((ixZ V.kd 9)=3)))),(41,(.slice A xs.length c)),(42,(iV ((xs.length: Nat): Int))),(43,(iV ((k: Nat): Int))),(78,(.slice a9 ((ws++bs).length) av)),(79,(iV (((ws++bs).length: Nat): Int))),(80,(iV ((Y: Nat): Int)))]) mixed j1 j7 C (q.pk J) (.c4 ?_ ?_ ?_ ?_ (.c4 ?_ ?_ ?_ ?_ (.c4 ?_ ?_ ?_ ?_ (.cons ?_ (.nil))))) (fun a w eq gl C q b7=>?_)
           ·refine Qy J fun a w M I C q F=>?_;exact ak q J J fun a q=>ql q C
           ·refine Qy J fun a w M I C q F=>?_;exact ak q J J fun a q=>ql q C
           ·refine Qy1 0 J fun a w M I C q F=>?_;obtain⟨_,q,rfl⟩:=F.g q 1 J;exact aD (b:=cr) (o:=0) (j:=Y) T44.und T46 fg q J J j0 j0 J fun a q=>ql q C
           ·refine Qy1 2 J fun a w M I C q F=>?_;exact am (vs:=(tL ((readS (HS.S O) G).1) dw e6)) T46 J q J (C.blkL 1 (b:=cr) (o:=.cells ez 46 (0,0)) (by rw [<- fz];rfl)) J fv J fun a q=>ql q C
           ·refine Qy J fun a w M I C q F=>?_;exact am (vs:=(tL ((readS (HS.S X) G).1) b1 b2)) T46 J q J (C.blkL 0 J) J (ah J) J fun a q=>ql q C
           ·refine Qy1 3 J fun a w M I C q F=>?_;obtain⟨_,q,rfl⟩:=F.g q 4 J;have b9:=b9.mono I;have dl:=dl.mono I;have gh:=c_R1Match C.inv.nil dl b9 gn go;refine id (Co func37 q J (gh) ?_);rintro e w ⟨hd,bk,bo,bm,b4,rfl,bn,ee⟩;refine⟨_,rfl,fun a q=>?_⟩;have C:=C.call ee;exact qdone ee.le q C ⟨bk,bo,bm,b4,rfl,bn⟩
           ·refine Qy J fun a w M I C q F=>?_;obtain⟨_,q,bk,bo,bm,b4,rfl,bn⟩:=F.g q 5 J;refine id (ak q J J fun a q=>?_);exact qdone (Le.refl _) q C ⟨bk,bo,bm,b4,rfl,bn⟩
           ·refine Qy J fun a w M I C q F=>?_;obtain⟨_,q,bk,bo,bm,b4,rfl,bn⟩:=F.g q 6 J;refine id (ae (v:=(.slice bk bo bm)) q J J J fun a q=>?_);exact qdone (Le.refl _) q C ⟨bk,bo,bm,b4,rfl,bn⟩
           ·refine Qy J fun a w M I C q F=>?_;obtain⟨_,q,bk,bo,bm,b4,rfl,bn⟩:=F.g q 6 J;refine id (ae (v:=(.bool b4)) q J J J fun a q=>?_);exact qdone (Le.refl _) q C ⟨bk,bo,bm,b4,rfl,bn⟩
           ·refine Qy J fun a w M I C q F=>?_;obtain⟨_,q,bk,bo,bm,b4,rfl,bn⟩:=F.g q 6 J;exact ae (v:=(iV 0)) q J J J fun a q=>ql q C
           ·refine Qy J fun a w M I C q F=>?_;obtain⟨_,q,bk,bo,bm,b4,rfl,bn⟩:=F.g q 7 J;refine id (aG q J J fun a q=>?_);exact qdone (Le.refl _) q C ⟨bk,bo,bm,b4,rfl,bn⟩
           ·refine Qy J fun a w M I C q F=>?_;obtain⟨_,q,bk,bo,bm,b4,rfl,bn⟩:=F.g q 8 J;refine id (aG q J J fun a q=>?_);exact qdone (Le.refl _) q C ⟨bk,bo,bm,b4,rfl,bn⟩
           ·refine Qy1 9 J fun a w M I C q F=>?_;exact aG q J J fun a q=>ql q C
           obtain⟨_,q,bk,bo,bm,b4,rfl,bn⟩:=Dd q b7 10 J;obtain⟨_,q,bk,bo,bm,b4,rfl,bn⟩:=Dd q b7 11 J;obtain⟨_,q,rfl⟩:=Dd q b7 12 J;refine aa (wp_seq (bI (D:= []) (N:=161) (E:= [(5,(pB b3)),(7,(pB bl)),(8,(.slice a9 ((ws++bs).length) av)),(9,(.slice b6 a3.length bh)),(14,(.slice bx ((bf++bc).length) bz)),(20,(.bool (decide ((ixZ V.kd 9)=3)))),(22,(.bool b4)),(23,(iV 0)),(41,(.slice A xs.length c)),(42,(iV ((xs.length: Nat): Int))),(43,(iV ((k: Nat): Int))),(78,(.slice a9 ((ws++bs).length) av)),(79,(iV (((ws++bs).length: Nat): Int))),(80,(iV ((Y: Nat): Int))),(158,(.bool ((decide ((ixZ V.kd 9)=3))&&(!b4))))]) (fun a q=>?_) ?_));rotate_left
           ·refine Lm J q fun a q=>?_;refine Lm J q fun a q=>?_;refine al (t:=151) q J (fun da q=>?_) (fun da q=>?_)
            ·refine ad J q J J J (ak q J J fun a q=>?_);refine ad J q J J J (bC (i:=0) (j:=0) q J J J fun a q=>?_);refine ad J q J J J (ak q J J fun a q=>?_);refine ad J q J J J (ak q J J fun a q=>?_);refine ad J q J J J (aQ q J J fun a q=>?_);refine ad J q J J J (aj q J J J fun a q=>?_);refine lin J (ao q J J J fun a q=>?_);have g2:((decide ((ixZ V.kd 9)=3))&&(!b4))=(!b4):=by
              try rw [decide_eq_true da]
              rfl
             exact wpList_nil ⟨rfl,rfl,Has.cons q J (Has.cons q J (Has.cons q J (Has.cons q J (Has.cons q J (Has.cons q J (Has.cons q J (Has.cons q J (Has.cons q J (Has.cons q J (Has.cons q J (Has.cons q J (Has.cons q J (Has.cons q J (Has.cons q (by rw [g2];rfl) (q.nil)))))))))))))))⟩
            ·refine Lf J q J J fun a q=>?_;refine Lf J q J J fun a q=>?_;refine Lf J q J J fun a q=>?_;refine a7 J J J q J J J fun a q=>?_;refine a7 J J J q J J J fun a q=>?_;refine Lf J q J J fun a q=>?_;refine lin J (aj q J J J fun a q=>?_);have g3:((decide ((ixZ V.kd 9)=3))&&(!b4))=false:=by
              try rw [decide_eq_false da]
              rfl
             exact wpList_nil ⟨rfl,rfl,Has.cons q J (Has.cons q J (Has.cons q J (Has.cons q J (Has.cons q J (Has.cons q J (Has.cons q J (Has.cons q J (Has.cons q J (Has.cons q J (Has.cons q J (Has.cons q J (Has.cons q J (Has.cons q J (Has.cons q (by rw [g3];rfl) (q.nil)))))))))))))))⟩
           refine aa (ar (t:=158) q J (fun e8 q=>?_) (fun e8 q=>?_))
           ·refine ap q J (wp_seq (ab (Ls J q fun a q=>?_)));refine wpList_nil (aa (wp_ret (aw (ag (ag (aw (aw (ag (ag (aw (ag (ret1 J q J ?_))))))))))))
            exfalso
            have ct:=e8;simp only [Bool.and_eq_true,decide_eq_true_eq] at ct;rw [bn (d0.binds c7 dc (List.mem_of_getElem? c9) ct.1 d6 d7)] at ct;exact absurd ct.2 j4
           ·refine ai q J (wp_skip (aq (aa (ab (lin J (aN (i:=((Y: Nat): Int)) (j:=1) q J J J j0 fun a q=>?_))))));refine Lm J q fun a q=>?_;refine wpList_nil (aa (?_));have C:=C.drop;exact⟨(ws++bs).length - (Y+1),by omega,eq,(Y+1),(c8.trans (cc.trans (cx.trans (cy.trans (gl))))),rfl,q.pk J,C,j0⟩
      ·refine ai q J (wp_exit (az (az (aO (aq (aa (ab (lin J (aN (i:=((k: Nat): Int)) (j:=1) q J J J j0 fun a q=>?_)))))))));refine Lm J q fun a q=>?_;refine wpList_nil (aa (?_));have C:=C.fd [0,0] J;exact⟨xs.length - (k+1),by omega,c5,(k+1),X,bf,bc,bu,(eg.trans (dg.le.trans (cw.trans (cj.le.trans (ck.le.trans (c8)))))),rfl,q.pk J,C,cv,db,e9,j0,j0,j0⟩
    ·refine ai q J (wp_exit (az (az (aO (aa (wp_seq (ab (Ls J q fun a q=>?_))))))));refine wpList_nil (aa (wp_ret (ret1 J q J ?_)));exact⟨_,rfl,C.drop_all⟩
end Go.Vk.Try
namespace Go.Vk.Try
open Go.ChangeShapes Go.WideShapes Go.ChangeAt Go.RowKit Go.Deep
theorem cells3: Go.Proofs.Try.prog.cellsOf 3=1:=by kernel_rfl
section
variable {H: Type} {enc: TypeId × Value->H} {W: World}
theorem cell_at {a: Addr} {v: Value} (h: W.cell? a=some v): ∃(cs: Array Value) (e: Nat) (fz: Nat × Nat),a=⟨a.block,a.off,none⟩/\W.heap[a.block]? =some (.cells cs e fz)/\cs[a.off]? =some v:=by
 have hs:=World.cell?_spot h;unfold World.cell? at h;rw [hs] at h
 cases hb: W.heap[a.block]? with
 | none=>rw [hb] at h;simp at h
 | some o =>
  rw [hb] at h
  cases o with
  | cells cs e fz =>
   refine⟨cs,e,fz,?_,rfl,by simpa using h⟩
   cases a;simp at hs;simp [hs]
  | _=>simp at h
theorem dx (a: Addr) (k: Nat):(a.add k).block=a.block:=by unfold Addr.add;split <;> rfl
theorem add_off (a: Addr) (k: Nat):(a.add k).off=a.off+k:=by
 unfold Addr.add
 split
 ·omega
 ·rfl
theorem bulk_len (l: List (DataW H)): l.length<=Go.Proofs.Ythblpljakpecdaa.Rows.uptoBulkAll l:=by
 induction l with
 | nil=>simp
 | cons x r ih =>
  have h1: 1<=Go.Proofs.Ythblpljakpecdaa.Rows.uptoBulk x:=by
   cases x with
   | lit l=>cases l <;> simp [Go.Proofs.Ythblpljakpecdaa.Rows.uptoBulk]
   | _=>simp [Go.Proofs.Ythblpljakpecdaa.Rows.uptoBulk]
  simp only [Go.Proofs.Ythblpljakpecdaa.Rows.uptoBulkAll,List.length_cons];omega
theorem inv_all (W: World): Inv W (fun b=>W.heap[b]?) []:=⟨fun e he=>(by cases he),List.Pairwise.nil,fun k o h=>⟨h,bS⟩⟩
theorem below_of {w: World} {H: PHeap} {H': PHeap} {w': World} (h: Step w H [] w' H' []): Below w.heap.size w w':=⟨h.os,h.tape,h.output,h.size,fun k hk=>h.blk k hk bS⟩
end
end Go.Vk.Try
namespace Go.Vk.Try
open Go.ChangeShapes Go.WideShapes Go.ChangeAt Go.RowKit Go.Deep Go.Proofs.Ythblpljakpecdaa
theorem own: ownKnob Go.Proofs.Try.prog.godebug=none:=by kernel_rfl
theorem laidOut: laidOutB prog=true:=by kernel_rfl
section
variable {H: Type} {enc: TypeId × Value->H} {W: World}
theorem trodAll_stays {W': World} (hb: Below W.heap.size W W') (sp: Nat->Bool): ∀(ts: List TypeId) (vs: List Value) (ds: List (DataW H)) (ps: List MemPlace),(∀ t ∈ ts,Go.Proofs.Try.prog.readableRec t=true/\t < Go.Proofs.Try.prog.types.size)->DataW.TrodAll enc prog W 0 (fun _=>true) true ts vs ds ps->(∀ x ∈ ps,x.block < W.heap.size)->(∀ x ∈ ps,sp x.block=true)->
  DataW.TrodAll enc prog W' 0 sp true ts vs ds ps
 | [], [], [],ps,_,h,_,_=>h
 | [],_::_,_,_,_,h,_,_=>h.elim
 | [], [],_::_,_,_,h,_,_=>h.elim
 | _::_, [],_,_,_,h,_,_=>h.elim
 | _::_,_::_, [],_,_,h,_,_=>h.elim
 | t::ts,v::vs,d::ds,ps,ht,h,hl,hs=>by
  obtain⟨p,q,h1,h2,rfl⟩:=h;refine⟨p,q,WideElems.Trod_stays laidOut (ht t List.mem_cons_self).1 (ht t List.mem_cons_self).2 h1 (fun x hx=>hb.same (hl x (List.mem_append_left _ hx))) (fun x hx=>hs x (List.mem_append_left _ hx)),?_,rfl⟩;exact trodAll_stays hb sp ts vs ds q (fun u hu=>ht u (List.mem_cons_of_mem _ hu)) h2 (fun x hx=>hl x (List.mem_append_right _ hx)) (fun x hx=>hs x (List.mem_append_right _ hx))
theorem open_intV {v: Value} {d: DataW H} {ps: List MemPlace} (h: DataW.Trod enc prog W 0 (fun _=>true) true 3 v d ps) (hv: Value.okWide prog W .any 0 3 v): ∃ i: Int,v=.int .i64 i:=by
 unfold Value.okWide at hv;rw [T3.und] at hv;obtain⟨n,h⟩:=h
 cases v with
 | int k i =>
  obtain⟨j,e,_⟩:=DataW.trod_int T3.und h;have e2: [Value.int k i]= [.int .i64 j]:=e;injection e2 with e3 _
  exact⟨j,e3⟩
 | _=>exfalso;simp [Cell.okWide,Cell.ok,T3.und] at hv
theorem post_old {f: Func} {s: ChangeSpec} {W': World} {args: Array Value} {ds gs: List (DataW H)} {before: List MemPlace} {l: DataW H} {r: Value}
  (hW: DataW.Whole enc prog f.params.toList s.vars false W args.toList ds gs before) (hvs: s.vars= []) (hds:(s.fn H (ds++gs)).args=ds) (hvr:(s.fn H (ds++gs)).vars= [])
  (hres: ∀(b: Nat) (sp: Nat->Bool) (hd: Bool),DataW.TrodAll enc prog W' b sp hd f.resultTypes.toList (r.resultList f.resultTypes.size) (s.fn H (ds++gs)).results [])
  (hb: Below W.heap.size W W') (hts: ∀ t ∈ f.params.toList,Go.Proofs.Try.prog.readableRec t=true/\t < Go.Proofs.Try.prog.types.size)
  (hok: ∀(j: Nat) (t: TypeId) (u: Value),f.resultTypes[j]? =some t->(r.resultList f.resultTypes.size)[j]? =some u->Value.okWide prog W' .any 0 t u) :
  s.post enc prog f false true false false W args r W':=by
 have hlt:=hW.lt;have hW0:=hW;obtain⟨p,q,hA,hV,rfl,hz,hn⟩:=hW0;rw [hvs] at hV;have hargs: ∀ sp: Nat->Bool,(∀ x ∈ p++q,sp x.block=true)->DataW.TrodAll enc prog W' 0 sp true f.params.toList args.toList (s.fn H (ds++gs)).args p:=fun sp hs=>by
  rw [hds];exact trodAll_stays hb sp _ _ _ _ hts hA (fun x hx=>hlt x (List.mem_append_left _ hx)) (fun x hx=>hs x (List.mem_append_left _ hx))
 obtain⟨rfl,rfl⟩:=trodVars_none hV;have hvars: ∀ sp: Nat->Bool,DataW.TrodVars enc prog W' sp s.vars (s.fn H (ds++ [])).vars []:=fun sp=>by rw [hvs,hvr];exact rfl
 have hold: ∀ x ∈ p++ [],(fun b=>decide (b < W.heap.size)) x.block=true:=fun x hx=>by simpa using hlt x hx
 refine⟨ds, [],p++ [], [],p, [],hW,hres _ _ _,hargs _ hold,hvars _,World.keptBut_mono (fun x hx=>⟨hx,.inr (by simpa using hx)⟩) (hb.frame _),fun _=>?_⟩;refine⟨hok,_,_,([]++p)++ [],⟨[]++p, [],trodAll_append (hargs _ (fun _ _=>rfl)) (hres _ _ _),hvars _,rfl,?_,?_⟩,?_⟩
 ·intro b off hp;have hp': MemPlace.cell b off ∈ p++ []:=by simpa using hp
  have h1:=hz b off hp';have h2:=hb.block b (hlt _ hp');unfold World.frozen? at h1 ⊢;rw [h2];exact h1
 ·intro ha;cases ha
 ·intro x hx _;simpa using hx
end
end Go.Vk.Try
namespace Go.Vk.Try
open Go.ChangeShapes Go.WideShapes Go.ChangeAt Go.RowKit Go.Deep Go.Proofs.Ythblpljakpecdaa
theorem cellsSt: Go.Proofs.Try.prog.cellsOf 67=4:=by kernel_rfl
section
variable {H: Type} {enc: TypeId × Value->H} {W: World}
theorem open_st {n: Nat} {cs: List Value} {x: DataW H × List MemPlace} (h: DataW.trod enc prog W 0 (fun _=>true) true n 67 cs=some x): ∃ p: StV,cs=p.cells:=by
 obtain⟨xs,m,_,rfl,hl,hlen,hf⟩:=DataW.trod_struct T67.und h;rw [cellsSt] at hl
 match cs,hl with
 | [c0,c1,c2,c3],_ =>
  match xs,hlen with
  | [y0,y1,y2,y3],_ =>
   have h0:=hf 0 _ J;have h1:=hf 1 _ J;have h2:=hf 2 _ J;have h3:=hf 3 _ J;simp [cells3] at h0 h1 h2 h3;obtain⟨k,e0,_⟩:=DataW.trod_int T3.und h0;obtain⟨i,e1,_⟩:=DataW.trod_int T3.und h1;obtain⟨j,e2,_⟩:=DataW.trod_int T3.und h2;obtain⟨l,e3,_⟩:=DataW.trod_int T3.und h3;simp only [List.cons.injEq,and_true] at e0 e1 e2 e3;subst e0 e1 e2 e3;exact⟨⟨k,i,j,l⟩,rfl⟩
theorem open_steps {v: Value} {d: DataW H} {ps: List MemPlace} (hB: Rows.uptoBulk d<=1048576) (hv: Value.okWide prog W .any 0 63 v) (h: DataW.Trod enc prog W 0 (fun _=>true) true 63 v d ps) :
  ∃(A: Option Addr) (xs: List StV) (c: Nat),v=.slice A xs.length c/\RowG 4 StV.cells (fun b=>W.heap[b]?) A c xs:=by
 obtain⟨n,h⟩:=h;have h: DataW.trod enc prog W 0 (fun _=>true) true n 63 [v]=some (d,ps):=by
  unfold Value.okWide at hv;rw [T63.und] at hv;unfold Cell.okWide at hv
  cases v with
  | slice a l c=>exact h
  | _=>first |(exfalso;simp [Cell.ok,T63.und] at hv;done) | exact h
 rcases open_slice T63.und h with ⟨hc,_⟩ |⟨a,len,cap,m,n',D,Pl,hc,_,hl,hm,hmm,hx,hall⟩
 ·simp only [List.cons.injEq,and_true] at hc;exact⟨none, [],0,hc,Nat.le_refl _,by simp,0,0,0,#[],(0,0),fun hn=>absurd J hn,fun j x hj=>by simp at hj⟩
 ·simp only [List.cons.injEq,and_true] at hc;simp only [if_true] at hmm;subst hmm;injection hx with hx1 hx2
  subst hx1;rw [cellsSt] at hall;simp only [Rows.uptoBulk] at hB;have hlen: len<=1048576:=by have:=bulk_len ((List.range len).map D);simp at this;omega
  have key: ∀ i,i < len->∃ p: StV,W.cells? 0 (a.add (i * 4)) 4=some p.cells:=by
   intro i hi;obtain⟨cs',h1,h2⟩:=hall i j0;obtain⟨p,rfl⟩:=open_st h2;exact⟨p,h1⟩
  classical
  let T: Nat->StV:=fun i=>if hi: i < len then (key i hi).choose else ⟨0,0,0,0⟩
  have hsp: ∀ i,i < len->W.cells? 0 (a.add (i * 4)) 4=some (T i).cells:=by
   intro i hi;simp only [T,dif_pos hi];exact(key i hi).choose_spec
  have hget: ∀(j: Nat) (t: StV),((List.range len).map T)[j]? =some t->j < len/\t=T j:=by
   intro j t hj;rw [List.getElem?_map] at hj
   by_cases hlt: j < len
   ·rw [List.getElem?_range hlt] at hj;exact⟨hlt,(Option.some.inj hj).symm⟩
   ·rw [List.getElem?_eq_none (by simpa using Nat.le_of_not_lt hlt)] at hj;cases hj
  refine⟨some a,(List.range len).map T,m,by rw [hc];simp,?_⟩
  ·refine⟨by simp;omega,by simp;omega,?_⟩
   by_cases h0: len=0
   ·subst h0;exact⟨0,0,0,#[],(0,0),fun hn=>absurd J hn,fun j t hj=>by simp at hj⟩
   ·obtain⟨_,hl4,hcell⟩:=World.cells?_some (hsp 0 j0);obtain⟨cs,e,fz,ha,hb,_⟩:=cell_at (hcell 0 j0);have hb': W.heap[a.block]? =some (.cells cs e fz):=by rw [dx,dx] at hb;exact hb
    have ha': a=⟨a.block,a.off,none⟩:=by
     have:=World.cell?_spot (hcell 0 j0)
     cases a;simp [Addr.add] at this;simp [this]
    refine⟨a.block,a.off,e,cs,fz,fun _=>⟨by rw [<- ha'],hb'⟩,fun j t hj i u hu=>?_⟩;obtain⟨hlt,rfl⟩:=hget j t hj;obtain⟨_,_,hcell⟩:=World.cells?_some (hsp j hlt);have hi4: i < 4:=by have:=(List.getElem?_eq_some_iff.1 hu).1;rwa [show (T j).cells.length=4 from rfl] at this
    have h8:=hcell i hi4;rw [hu] at h8;obtain⟨cs2,e2,fz2,_,hb2,hu2⟩:=cell_at h8;have hb3: W.heap[a.block]? =some (.cells cs2 e2 fz2):=by rw [dx,dx] at hb2;exact hb2
    rw [hb'] at hb3;injection hb3 with hb3
    injection hb3 with hb3
    subst hb3;rw [add_off,add_off] at hu2;exact hu2
end
end Go.Vk.Try
namespace Go.Vk.Try
open Go.ChangeShapes Go.WideShapes Go.ChangeAt Go.RowKit Go.Deep Go.Proofs.Ythblpljakpecdaa
theorem heapInPlace_contract (H: Type) (enc: TypeId × Value->H) (W: World) (base: Nat) (args: Array Value) (ds gs: List (DataW H)) (before: List MemPlace)
  (hval: ∀(j: Nat) t v,Go.Proofs.Try.f7.params[j]? =some t->args[j]? =some v->Value.okWide prog W .any 0 t v)
  (hW: DataW.Whole enc prog Go.Proofs.Try.f7.params.toList Rows.heapInPlaceSpec.vars false W args.toList ds gs before) (hk: Rows.uptoSmall H (ds++gs)=true) :
  Calls prog 7 args W fun e W'=> ∃ v,e=.returned v/\Rows.heapInPlaceSpec.post enc prog f7 false true false false W args v W':=by
 have V:=hW;obtain⟨p,a8,M,T,rfl,a3,a4⟩:=hW;have C: DataW.TrodAll enc prog W 0 (fun _=>true) true Go.Proofs.Try.f7.params.toList args.toList ds p:=M;rw [params7] at C hval;obtain⟨Z,a0,q,F,a6,a7,rfl,rfl,rfl,G,I⟩:=trodAll_two C;obtain⟨rfl,rfl⟩:=trodVars_none T;have X: Rows.uptoBulkAll ([q,F]++ [])<=1048576:=of_decide_eq_true hk;simp only [List.append_nil,Rows.uptoBulkAll] at X;obtain⟨a5,rfl⟩:=open_intV G (hval 0 3 Z J J);obtain⟨a1,a9,a2,rfl,h1⟩:=open_steps j0 (hval 1 63 a0 J J) I;refine(c_HeapInPlace (inv_all W) h1).mono fun e W' Y=>?_;obtain⟨H',rfl,O⟩:=Y;exact⟨_,rfl,post_old (l:=q) V J J J (fun _ _ _=>trodAll_mk1 (shut_bool underlying4 _)) (below_of O) (by rw [params7];intro t ht;simp at ht;rcases ht with rfl | rfl <;> exact⟨by kernel_rfl,of_decide_eq_true j1⟩) (ok_one j1 J (okWide_bool_mk underlying4 _))⟩
theorem heapInPlace_lifted (os: Os) (started: os.Started) (H: Type) (enc: TypeId × Value->H) (F: Stop.Interp) :
  ReturnsInHanded {} checked os 7 .any ((Rows.OpenSpec.upto Rows.heapInPlaceSpec).pre6 enc prog f7 Rows.heapInPlaceUptoRow.domain false) (((Rows.OpenSpec.upto Rows.heapInPlaceSpec).at F).post enc prog f7 false true false false):=by
 refine returnsInHanded_of_cond (C:=checked) (s:=Rows.OpenSpec.upto Rows.heapInPlaceSpec) (k:=Rows.uptoSmall) J own started j1 func7
  (OpenSpec.witness (enc:=enc) (C:=checked) (s:=Rows.OpenSpec.upto Rows.heapInPlaceSpec) (k:=Rows.uptoSmall) J false ⟨#[],#[.int .i64 0,.slice none 0 0], []⟩ 8 j1 j1 j1
   (x:=([.lit (.int .i64 0),.nil], [], [])) j1 J j1) ?_
 intro W G q M O I X T _ V _;exact heapInPlace_contract H enc W G q M O I X T V
theorem heapInPlace_proved: Rows.HeapInPlaceUptoSaid:=
 OpenClaim.holds_of_cond 7 f7 J J J J J J J ⟨rfl,rfl,rfl,rfl,rfl⟩ J J J J J j1 func7 j1
  (of_decide_eq_true j1) (by unfold Func.isWrapper;first |(rw [if_pos (by decide +kernel)];kernel_rfl) |(rw [if_neg (by decide +kernel)];exact⟨rfl,rfl⟩))
  (fun C F H enc _ q=>heapInPlace_lifted C F H enc q)
end Go.Vk.Try
namespace Go.Proofs.Ythblpljakpecdaa
theorem heapInPlace_holds: Rows.HeapInPlaceUptoSaid:=Go.Vk.Try.heapInPlace_proved
end Go.Proofs.Ythblpljakpecdaa

