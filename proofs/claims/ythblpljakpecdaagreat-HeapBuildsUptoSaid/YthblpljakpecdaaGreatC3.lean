/- Part 3 of the proof of heapBuilds_holds. Conditions: none. -/
import Derived.Test.YthblpljakpecdaaGreatC2
set_option linter.unusedVariables false
set_option linter.unusedSimpArgs false
set_option linter.unusedSectionVars false
set_option maxRecDepth 100000
open Go.Proofs.Tryz
namespace Go.Vk
open Go.RowKit
theorem findP_min {tk: List Bool} {size q: Nat} (hq: q+size<=tk.length) (hfree: ∀ j,q<=j->j < q+size->tk[j]? =some false): ∀(k a: Nat),tk.length+1<=k+a->a<=q->∃ p: Nat,findP tk size k a=p/\p<=q
 | 0,a,hk,ha=>by omega
 | k+1,a,hk,ha=>by
  rw [findP,if_neg j0]
  cases hf:((tk.drop a).take size).findIdx? id with
  | none=>exact ⟨a,rfl,ha⟩
  | some i =>
   obtain⟨hlt,ht,_⟩:=List.findIdx?_eq_some_iff_getElem.1 hf;rw [List.length_take,List.length_drop] at hlt;have h1: tk[a+i]? =some true:=by
    rw [List.getElem_take,List.getElem_drop] at ht;rw [List.getElem?_eq_getElem j0];exact congrArg some ht
   have h2: a+i < q:=by
    refine Classical.byContradiction fun hc=>?_;rw [hfree (a+i) j0 j0] at h1
    cases h1
   exact findP_min hq hfree k (a+i+1) j0 j0
end Go.Vk
namespace Go.Vk
abbrev RB:=Nat × PB
def enB: Nat->PS->List RB
 | _, []=> []
 | k,none::S=>enB (k+1) S
 | k,some b::S=>(k,b)::enB (k+1) S
theorem eE: ∀ {S: PS} {k j: Nat} {b: PB},(j,b) ∈ enB k S↔∃ i,j=k+i/\S[i]? =some (some b)
 | [],k,j,b=>by simp [enB]
 | o::S,k,j,b=>by
  have ih:= @eE S (k+1) j b
  constructor
  ·intro h
   cases o with
   | none =>
    rw [enB] at h;obtain⟨i,h1,h2⟩:=ih.1 h;exact⟨i+1,by omega,by simpa using h2⟩
   | some c =>
    rw [enB,List.mem_cons] at h
    rcases h with h | h
    ·injection h with h1 h2
     subst h1 h2;exact⟨0,rfl,rfl⟩
    ·obtain⟨i,h1,h2⟩:=ih.1 h;exact⟨i+1,by omega,by simpa using h2⟩
  ·rintro⟨i,h1,h2⟩
   cases i with
   | zero =>
    have h3: o=some b:=by simpa using h2
    subst h3;rw [enB,show j=k by omega];exact List.mem_cons_self
   | succ i =>
    have h3:=ih.2 ⟨i,by omega,by simpa using h2⟩
    cases o with
    | none=>rw [enB];exact h3
    | some c=>rw [enB];exact List.mem_cons_of_mem _ h3
theorem gj {S: PS} {k: Nat} {x: RB} (h: x ∈ enB k S): k<=x.1:=by
 obtain⟨i,h1,_⟩:=(eE (b:=x.2)).1 h;omega
theorem dK: ∀(S: PS) (k: Nat),(enB k S).Pairwise (fun x y=>x.1 < y.1)
 | [],k=>by rw [enB];exact List.Pairwise.nil
 | none::S,k=>by rw [enB];exact dK S (k+1)
 | some b::S,k=>by
  rw [enB,List.pairwise_cons];exact⟨fun y hy=>by have:=gj hy;show k < y.1;omega,dK S (k+1)⟩
theorem bn: ∀(S: PS) (k: Nat),(enB k S).length<=S.length
 | [],k=>by rw [enB];exact Nat.le_refl _
 | none::S,k=>by rw [enB,List.length_cons];have:=bn S (k+1);omega
 | some b::S,k=>by rw [enB,List.length_cons,List.length_cons];have:=bn S (k+1);omega
theorem fE {S: PS} {q: Nat} {x: RB} (h:(enB 0 S)[q]? =some x): S[x.1]? =some (some x.2):=by
 obtain⟨i,h1,h2⟩:=(eE (b:=x.2)).1 (List.mem_of_getElem? h);rw [show x.1=i by omega];exact h2
theorem enB_inj {S: PS} {q r: Nat} {x y: RB} (h1:(enB 0 S)[q]? =some x) (h2:(enB 0 S)[r]? =some y) (h: x.1=y.1): q=r:=by
 have hs:=dK S 0;obtain⟨hq,hx⟩:=List.getElem?_eq_some_iff.1 h1;obtain⟨hr,hy⟩:=List.getElem?_eq_some_iff.1 h2;rw [List.pairwise_iff_getElem] at hs
 rcases Nat.lt_trichotomy q r with h3 | h3 | h3
 ·have:=hs q r hq hr h3;rw [hx,hy] at this;omega
 ·exact h3
 ·have:=hs r q hr hq h3;rw [hx,hy] at this;omega
theorem enB_get {S: PS} {j: Nat} {b: PB} (h: S[j]? =some (some b)): ∃ q: Nat,(enB 0 S)[q]? =some (j,b):=List.getElem?_of_mem ((eE (k:=0)).2 ⟨j,by omega,h⟩)
def fdI (bs: List RB) (a: Int): Int:=
 match bs.findIdx? (fun x=>decide ((x.1: Int)=a)) with
 | some i=>(i: Int)
 | none=> -1
theorem fdI_at {bs: List RB} {a: Int} {q: Nat} {x: RB} (h: bs[q]? =some x) (he:(x.1: Int)=a) (hn: ∀ j y,j < q->bs[j]? =some y->¬(y.1: Int)=a): fdI bs a=(q: Int):=by
 unfold fdI;have: bs.findIdx? (fun x=>decide ((x.1: Int)=a))=some q:=by
  rw [List.findIdx?_eq_some_iff_getElem];obtain⟨hq,hx⟩:=List.getElem?_eq_some_iff.1 h;refine⟨hq,by rw [hx];exact decide_eq_true he,fun j hj=>?_⟩;have:=hn j _ hj (List.getElem?_eq_getElem j0);simp [this]
 rw [this]
theorem fdI_none {bs: List RB} {a: Int} (hn: ∀(j: Nat) y,bs[j]? =some y->¬(y.1: Int)=a): fdI bs a= -1:=by
 unfold fdI;have: bs.findIdx? (fun x=>decide ((x.1: Int)=a))=none:=by
  rw [List.findIdx?_eq_none_iff];intro x hx;obtain⟨j,hj⟩:=List.getElem?_of_mem hx;exact decide_eq_false (hn j x hj)
 rw [this]
theorem fd_cases (S: PS) (a: Int):(fdI (enB 0 S) a= -1/\∀(j: Nat) b,S[j]? =some (some b)->¬(j: Int)=a)\/∃(q j: Nat) (b: PB),fdI (enB 0 S) a=(q: Int)/\(enB 0 S)[q]? =some (j,b)/\a=(j: Int)/\S[j]? =some (some b):=by
 by_cases h: ∃(j: Nat) (b: PB),S[j]? =some (some b)/\(j: Int)=a
 ·obtain⟨j,b,h1,h2⟩:=h;obtain⟨q,hq⟩:=enB_get h1;exact .inr ⟨q,j,b,fdI_at hq h2 (fun i y hi hy he=>by have:=enB_inj hy hq (by show y.1=j;omega);omega),hq,h2.symm,h1⟩
 ·have h2: ∀(j: Nat) b,S[j]? =some (some b)->¬(j: Int)=a:=fun j b h1 h2=>h ⟨j,b,h1,h2⟩;exact .inl ⟨fdI_none (fun j y hy=>h2 _ _ (fE hy)),h2⟩
theorem atS_fd (S: PS) (w: Wd):(fdI (enB 0 S) w.n= -1/\atS S w=none)\/∃(q j: Nat) (b: PB),fdI (enB 0 S) w.n=(q: Int)/\(enB 0 S)[q]? =some (j,b)/\w.n=(j: Int)/\S[j]? =some (some b)/\(w.s=⟨#[]⟩->atS S w=if w.tag=b.tag then some b else none)/\(¬ w.s=⟨#[]⟩->atS S w=none):=by
 rcases fd_cases S w.n with ⟨h1,h2⟩ |⟨q,j,b,h1,h2,h3,h4⟩
 ·refine .inl ⟨h1,?_⟩
  by_cases hw: w.n < 0\/(S.length: Int)<=w.n
  ·exact ck j0
  ·have hl: w.n.toNat < S.length:=by omega
   cases hg: S[w.n.toNat]? with
   | none=>rw [List.getElem?_eq_getElem hl] at hg;cases hg
   | some o =>
    cases o with
    | none=>exact ck (.inr (.inr (.inr hg)))
    | some b=>exact absurd j0 (h2 _ _ hg)
 ·refine .inr ⟨q,j,b,h1,h2,h3,h4,fun hs=>?_,fun hs=>ck (.inr (.inr (.inl hs)))⟩;have hj:=(List.getElem?_eq_some_iff.1 h4).1;exact dm j0 j0 hs (by rw [h3];exact h4)
theorem fG: ∀ {S: PS} {k q j: Nat} {b c: PB},(enB k S)[q]? =some (j,b)->k<=j/\enB k (S.set (j - k) (some c))=(enB k S).set q (j,c)
 | [],k,q,j,b,c,h=>by simp [enB] at h
 | none::S,k,q,j,b,c,h=>by
  rw [enB] at h;have ih:=fG (c:=c) h;refine⟨by omega,?_⟩;rw [show j - k=(j - (k+1))+1 by omega,List.set_cons_succ,enB,enB];exact ih.2
 | some d::S,k,q,j,b,c,h=>by
  rw [enB] at h
  cases q with
  | zero =>
   have h1:(k,d)=(j,b):=by simpa using h
   injection h1 with h1 h2
   subst h1;refine⟨Nat.le_refl _,?_⟩;rw [Nat.sub_self,List.set_cons_zero,enB,enB,List.set_cons_zero]
  | succ q =>
   have ih:=fG (c:=c) (q:=q) (k:=k+1) (S:=S) (by simpa using h);refine⟨by omega,?_⟩;rw [show j - k=(j - (k+1))+1 by omega,List.set_cons_succ,enB,enB,ih.2,List.set_cons_succ]
theorem enB_put0 {S: PS} {q j: Nat} {b c: PB} (h:(enB 0 S)[q]? =some (j,b)): enB 0 (S.set j (some c))=(enB 0 S).set q (j,c):=(fG h).2
theorem fF: ∀ {S: PS} {k q j: Nat} {b: PB},(enB k S)[q]? =some (j,b)->k<=j/\enB k (S.set (j - k) none)=(enB k S).eraseIdx q
 | [],k,q,j,b,h=>by simp [enB] at h
 | none::S,k,q,j,b,h=>by
  rw [enB] at h;have ih:=fF h;refine⟨by omega,?_⟩;rw [show j - k=(j - (k+1))+1 by omega,List.set_cons_succ,enB,enB];exact ih.2
 | some d::S,k,q,j,b,h=>by
  rw [enB] at h
  cases q with
  | zero =>
   have h1:(k,d)=(j,b):=by simpa using h
   injection h1 with h1 h2
   subst h1;refine⟨Nat.le_refl _,?_⟩;rw [Nat.sub_self,List.set_cons_zero,enB,enB,List.eraseIdx_zero,List.tail_cons]
  | succ q =>
   have ih:=fF (q:=q) (k:=k+1) (S:=S) (by simpa using h);refine⟨by omega,?_⟩;rw [show j - k=(j - (k+1))+1 by omega,List.set_cons_succ,enB,enB,ih.2,List.eraseIdx_cons_succ]
theorem enB_del0 {S: PS} {q j: Nat} {b: PB} (h:(enB 0 S)[q]? =some (j,b)): enB 0 (S.set j none)=(enB 0 S).eraseIdx q:=(fF h).2
def loB (a: Nat) (bs: List RB): List RB:=bs.filter fun x=>decide (x.1 < a)
def hiB (a: Nat) (bs: List RB): List RB:=bs.filter fun x=>decide (a < x.1)
theorem enB_add: ∀ {S: PS} {k i: Nat} (b: PB),S[i]? =some none->enB k (S.set i (some b))=loB (k+i) (enB k S)++(k+i,b)::hiB (k+i) (enB k S)
 | [],k,i,b,h=>by simp at h
 | o::S,k,0,b,h=>by
  have ho: o=none:=by simpa using h
  subst ho;have h1: loB k (enB (k+1) S)= []:=by
   unfold loB;rw [List.filter_eq_nil_iff];intro x hx;have:=gj hx;simp only [decide_eq_true_eq];omega
  have h2: hiB k (enB (k+1) S)=enB (k+1) S:=by
   unfold hiB;rw [List.filter_eq_self];intro x hx;have:=gj hx;simp only [decide_eq_true_eq];omega
  rw [List.set_cons_zero,enB,enB]
  show (k,b)::enB (k+1) S=loB k (enB (k+1) S)++(k,b)::hiB k (enB (k+1) S)
  rw [h1,h2];rfl
 | o::S,k,i+1,b,h=>by
  have ih:=enB_add (k:=k+1) (i:=i) (S:=S) b (by simpa using h);rw [List.set_cons_succ]
  cases o with
  | none=>rw [enB,enB,ih,show k+1+i=k+(i+1) by omega]
  | some c =>
   rw [enB,enB,ih,show k+1+i=k+(i+1) by omega];have h1: loB (k+(i+1)) ((k,c)::enB (k+1) S)=(k,c)::loB (k+(i+1)) (enB (k+1) S):=by
    unfold loB;rw [List.filter_cons,if_pos (decide_eq_true (by show k < _;omega))]
   have h2: hiB (k+(i+1)) ((k,c)::enB (k+1) S)=hiB (k+(i+1)) (enB (k+1) S):=by
    unfold hiB;rw [List.filter_cons,if_neg (by simp only [decide_eq_true_eq];omega)]
   rw [h1,h2];rfl
theorem loB_take {bs: List RB} {a k: Nat} {x: RB} (h: bs[k]? =some x): loB a (bs.take (k+1))=if x.1 < a then loB a (bs.take k)++ [x] else loB a (bs.take k):=by
 unfold loB;rw [List.take_add_one,h,List.filter_append]
 show _++List.filter _ [x]=_
 split
 ·rename_i h1
  rw [List.filter_cons,if_pos (decide_eq_true h1)];rfl
 ·rename_i h1
  rw [List.filter_cons,if_neg (by simpa using h1)];simp
theorem hiB_take {bs: List RB} {a k: Nat} {x: RB} (h: bs[k]? =some x): hiB a (bs.take (k+1))=if a < x.1 then hiB a (bs.take k)++ [x] else hiB a (bs.take k):=by
 unfold hiB;rw [List.take_add_one,h,List.filter_append]
 show _++List.filter _ [x]=_
 split
 ·rename_i h1
  rw [List.filter_cons,if_pos (decide_eq_true h1)];rfl
 ·rename_i h1
  rw [List.filter_cons,if_neg (by simpa using h1)];simp
def rmB (n N: Nat): Nat->List RB->Int
 | a, []=>if a+n<=N then (a: Int) else -1
 | a,x::xs=>if a+n<=x.1 then (a: Int) else rmB n N (x.1+x.2.size) xs
theorem findS_min {tk: List Bool} {size q: Nat} (hq: q+size<=tk.length) (hfree: ∀ j,q<=j->j < q+size->tk[j]? =some false): ∃ p: Nat,findS tk size=p/\p<=q:=findP_min hq hfree _ _ j0 (Nat.zero_le _)
theorem fm {h: HS} (hO: h.Ok) {n: Nat} (hn: 1<=n): ∀(T: PS) (k a: Nat),h.S.drop k=T->k<=h.S.length->(a=0\/∃(j: Nat) (b: PB),j < k/\h.S[j]? =some (some b)/\a=j+b.size)->(∀(j: Nat) (b: PB),j < k->h.S[j]? =some (some b)->j+b.size<=a)->(∀ q: Nat,q+n<=h.S.length->(∀ j,q<=j->j < q+n->h.tk[j]? =some false)->a<=q)->rmB n h.S.length a (enB k T)=findS h.tk n
 | [],k,a,hd,hk,ha,hb,hf=>by
  have hlen: h.S.length<=k:=by
   have:=congrArg List.length hd;rw [List.length_drop,List.length_nil] at this;omega
  have hlt:=hO.ltk;have free: ∀ j,a<=j->j < h.S.length->h.tk[j]? =some false:=by
   intro j h1 h2;have hj: j < h.tk.length:=by omega
   rw [List.getElem?_eq_getElem hj]
   cases hc: h.tk[j] with
   | false=>rfl
   | true =>
    obtain⟨i,b,h3,h4,h5⟩:=(hO.tkn j).1 (by rw [List.getElem?_eq_getElem hj,hc]);have:=hb i b j0 h3;omega
  rw [enB,rmB]
  split
  ·rename_i h1
   obtain⟨p,h2,h3⟩:=findS_min (tk:=h.tk) (size:=n) (q:=a) j0 (fun j h4 h5=>free j h4 j0)
   rcases bJ h.tk n with h4 |⟨p',h4,h5,h6⟩
   ·omega
   ·have: a<=p':=hf p' j0 h6;omega
  ·rename_i h1
   rcases bJ h.tk n with h4 |⟨p',h4,h5,h6⟩
   ·exact h4.symm
   ·have: a<=p':=hf p' j0 h6;omega
 | none::T,k,a,hd,hk,ha,hb,hf=>by
  have hkl: k < h.S.length:=by
   have:=congrArg List.length hd;rw [List.length_drop,List.length_cons] at this;omega
  have h0: h.S[k]? =some none:=by
   have:=congrArg (fun l=>l[0]?) hd;simpa using this
  rw [enB];refine fm hO hn T (k+1) a ?_ j0 ?_ (fun j b h1 h2=>?_) hf
  ·rw [<- List.drop_drop,hd];rfl
  ·rcases ha with ha |⟨j,b,h1,h2⟩
   ·exact .inl ha
   ·exact .inr ⟨j,b,by omega,h2⟩
  ·rcases Nat.lt_or_ge j k with h3 | h3
   ·exact hb j b h3 h2
   ·rw [show j=k by omega,h0] at h2;cases h2
 | some c::T,k,a,hd,hk,ha,hb,hf=>by
  have hkl: k < h.S.length:=by
   have:=congrArg List.length hd;rw [List.length_drop,List.length_cons] at this;omega
  have h0: h.S[k]? =some (some c):=by
   have:=congrArg (fun l=>l[0]?) hd;simpa using this
  have hak: a<=k:=by
   rcases ha with ha |⟨j,b,h1,h2,h3⟩
   ·omega
   ·have:=hO.dis j k b c h2 h0 h1;omega
  have hlt:=hO.ltk;have hc:=hO.blk k c h0;have hcs:=hc.1.size;have free: ∀ j,a<=j->j < k->h.tk[j]? =some false:=by
   intro j h1 h2;have hj: j < h.tk.length:=by omega
   rw [List.getElem?_eq_getElem hj]
   cases hcc: h.tk[j] with
   | false=>rfl
   | true =>
    obtain⟨i,b,h3,h4,h5⟩:=(hO.tkn j).1 (by rw [List.getElem?_eq_getElem hj,hcc]);have:=hb i b j0 h3;omega
  have tkn: ∀ j,k<=j->j < k+c.size->h.tk[j]? =some true:=fun j h1 h2=>(hO.tkn j).2 ⟨k,c,h0,h1,h2⟩;rw [enB,rmB];dsimp only
  split
  ·rename_i h1
   obtain⟨p,h2,h3⟩:=findS_min (tk:=h.tk) (size:=n) (q:=a) j0 (fun j h4 h5=>free j h4 j0)
   rcases bJ h.tk n with h4 |⟨p',h4,h5,h6⟩
   ·omega
   ·have: a<=p':=hf p' j0 h6;omega
  ·rename_i h1
   refine fm hO hn T (k+1) (k+c.size) ?_ j0 (.inr ⟨k,c,by omega,h0,rfl⟩) (fun j b h2 h3=>?_) (fun q h2 h3=>?_)
   ·rw [<- List.drop_drop,hd];rfl
   ·rcases Nat.lt_or_ge j k with h4 | h4
    ·have:=hO.dis j k b c h3 h0 h4;omega
    ·obtain rfl: j=k:=by omega
     rw [h0] at h3;obtain rfl:=Option.some.inj (Option.some.inj h3);exact Nat.le_refl _
   ·have h4:=hf q h2 h3;refine Classical.byContradiction fun h5=>?_
    by_cases h6: q<=k
    ·have h7:=h3 k h6 j0;rw [tkn k (Nat.le_refl _) j0] at h7;cases h7
    ·have h7:=h3 q (Nat.le_refl _) j0;rw [tkn q j0 j0] at h7;cases h7
theorem rmB_eq {h: HS} (hO: h.Ok) {n: Nat} (hn: 1<=n): rmB n h.S.length 0 (enB 0 h.S)=findS h.tk n:=
 fm hO hn h.S 0 0 J (Nat.zero_le _) (.inl J) (fun j b h=>by omega) (fun q _ _=>Nat.zero_le _)
theorem findS_none {h: HS} (hO: h.Ok) {n p: Nat} (hn: 1<=n) (hf: findS h.tk n=(p: Int)): h.S[p]? =some none/\p+n<=h.S.length:=by
 have hlt:=hO.ltk
 rcases bJ h.tk n with h4 |⟨p',h4,h5,h6⟩
 ·omega
 ·obtain rfl: p'=p:=by omega
  have hp: p' < h.S.length:=by omega
  refine⟨?_,by omega⟩;rw [List.getElem?_eq_getElem hp]
  cases hc: h.S[p'] with
  | none=>rfl
  | some c =>
   have h7:=(hO.tkn p').2 ⟨p',c,by rw [List.getElem?_eq_getElem hp,hc],Nat.le_refl _,by have:=((hO.blk p' c (by rw [List.getElem?_eq_getElem hp,hc])).1).size;omega⟩;rw [h6 p' (Nat.le_refl _) j0] at h7;cases h7
def szB (bs: List RB): Nat:=(bs.map fun x=>x.2.size).sum
theorem szB_take {bs: List RB} {k: Nat} {x: RB} (h: bs[k]? =some x): szB (bs.take (k+1))=szB (bs.take k)+x.2.size:=by
 unfold szB;rw [List.take_add_one,h,List.map_append,List.sum_append];simp
end Go.Vk
namespace Go.Vk
open Go.RowKit
def PB.kind: PB->Int
 | .var _ _=>1
 | .fn _ _=>2
 | .vec _=>3
def PB.nm: PB->ByteArray
 | .fn s _=>s
 | _=>⟨#[]⟩
def PB.bound: PB->Bool
 | .var (_::_) _=>true
 | _=>false
def PB.hooks: PB->List Int
 | .var _ hk=>hk
 | _=> []
theorem PB.tag_kind (b: PB): b.tag=b.kind+3:=by cases b <;> rfl
structure RbV where
 b: RB
 A: Option Addr
 c: Nat
 A2: Option Addr
 c2: Nat
def RbV.cells (x: RbV): List Value:= [.int .i64 (x.b.1: Int),.int .i64 x.b.2.kind,.string x.b.2.nm,.slice x.A x.b.2.words.length x.c,.bool x.b.2.bound,.slice x.A2 x.b.2.hooks.length x.c2]
theorem RbV.len (x: RbV): x.cells.length=6:=rfl
theorem RbV.one' (x: RbV): ∀ u ∈ x.cells,u.oneCell'=true:=by
 intro u hu;simp only [RbV.cells,List.mem_cons,List.not_mem_nil,or_false] at hu
 rcases hu with rfl | rfl | rfl | rfl | rfl | rfl <;> rfl
def VOk (H: PHeap) (x: RbV): Prop:=RowG 4 Wd.cells H x.A x.c x.b.2.words/\RowI H x.A2 x.c2 x.b.2.hooks
def AllRv (H: PHeap) (xs: List RbV): Prop:= ∀ x ∈ xs,VOk H x
section
variable {H H': PHeap} {xs ys: List RbV} {x: RbV}
theorem VOk.mono (h: VOk H x) (hl: Le H H'): VOk H' x:=⟨h.1.mono hl,h.2.mono hl⟩
theorem AllRv.mono (h: AllRv H xs) (hl: Le H H'): AllRv H' xs:=fun x hx=>(h x hx).mono hl
theorem AllRv.nil (H: PHeap): AllRv H []:=fun p hp=>by cases hp
theorem AllRv.take (h: AllRv H xs) (k: Nat): AllRv H (xs.take k):=fun p hp=>h p (List.mem_of_mem_take hp)
theorem AllRv.drop (h: AllRv H xs) (k: Nat): AllRv H (xs.drop k):=fun p hp=>h p (List.mem_of_mem_drop hp)
theorem AllRv.append (h: AllRv H xs) (h': AllRv H ys): AllRv H (xs++ys):=fun p hp=>by
 rcases List.mem_append.1 hp with hp | hp
 ·exact h p hp
 ·exact h' p hp
theorem AllRv.one (h: VOk H x): AllRv H [x]:=fun p hp=>by
 rw [List.mem_singleton] at hp;subst hp;exact h
theorem AllRv.set (h: AllRv H xs) (h1: VOk H x) (k: Nat): AllRv H (xs.set k x):=fun p hp=>by
 rcases List.mem_or_eq_of_mem_set hp with hp | rfl
 ·exact h p hp
 ·exact h1
theorem AllRv.at_ (h: AllRv H xs) {k: Nat} (hx: xs[k]? =some x): VOk H x:=h x (List.mem_of_getElem? hx)
end
theorem gm {xs: List RbV} {bs: List RB} (h: xs.map RbV.b=bs) {k: Nat} {x: RbV} (hx: xs[k]? =some x): bs[k]? =some x.b:=by
 rw [<- h,List.getElem?_map,hx];rfl
theorem map_at' {xs: List RbV} {bs: List RB} (h: xs.map RbV.b=bs) {k: Nat} {x: RB} (hx: bs[k]? =some x): ∃ v,xs[k]? =some v/\v.b=x:=by
 rw [<- h,List.getElem?_map] at hx
 cases hv: xs[k]? with
 | none=>rw [hv] at hx;cases hx
 | some v=>rw [hv] at hx;exact⟨v,rfl,Option.some.inj hx⟩
theorem bI {xs: List RbV} {bs: List RB} (h: xs.map RbV.b=bs): xs.length=bs.length:=by rw [<- h,List.length_map]
def RK (r: Nat) (S: PS) (H: PHeap) (es eb: Ent): Prop:= ∃(xs: List RbV) (A: Option Addr) (c: Nat),es=(some r,.cells #[.int .i64 (S.length: Int),.slice A xs.length c] 133 (0,0))/\Row (.slice A xs.length c) eb 140 6 xs.length (gfl RbV.cells xs)/\AllRv H xs/\xs.map RbV.b=enB 0 S
theorem RK.mono {r: Nat} {S: PS} {H H': PHeap} {es eb: Ent} (h: RK r S H es eb) (hl: Le H H'): RK r S H' es eb:=by
 obtain⟨xs,A,c,h1,h2,h3,h4⟩:=h;exact⟨xs,A,c,h1,h2,h3.mono hl,h4⟩
end Go.Vk
namespace Go.Vk
open Go.RowKit
def RV (v: Value): Option (DataW Value × List MemPlace):=some (.held v, [])
def AtF (D: DataW Value) (f: Int->Option Value): Prop:= ∀ q z,D.atKey (.int .i64 q) z=match f q with
 | some v=>.held v
 | none=>z
def MapV (P: Program) (k: TypeId) (en: Ent) (b n: Nat) (f: Int->Option Value): Prop:=
 ∃ o D,en=(some b,o)/\(∀ W: World,W.heap[b]? =some o->W.ownsMap P k RV b n D)/\Maps.IsMap D/\AtF D f
def putF (f: Int->Option Value) (q: Int) (v: Value): Int->Option Value:=fun x=>if x=q then some v else f x
def delF (f: Int->Option Value) (q: Int): Int->Option Value:=fun x=>if x=q then none else f x
theorem AtF.put {D: DataW Value} {f: Int->Option Value} (hD: Maps.IsMap D) (h: AtF D f) (q: Int) (v: Value): AtF (D.put (.int .i64 q) (.held v)) (putF f q v):=by
 intro x z;unfold putF
 by_cases hx: x=q
 ·subst hx;rw [Maps.atKey_put_same hD (by simp [WideAt.IsKeyLit]),if_pos J]
 ·rw [Maps.atKey_put_other (fun e=>hx (by injection e)),h,if_neg hx]
theorem AtF.del {D: DataW Value} {f: Int->Option Value} (h: AtF D f) (q: Int): AtF (D.del (.int .i64 q)) (delF f q):=by
 intro x z;unfold delF
 by_cases hx: x=q
 ·subst hx;rw [Maps.atKey_del_same,if_pos J]
 ·rw [Maps.atKey_del_other (fun e=>hx (by injection e)),h,if_neg hx]
theorem AtF.has {D: DataW Value} {f: Int->Option Value} (h: AtF D f) (q: Int): Maps.has D (.int .i64 q)=(f q).isSome:=by
 cases hf: f q with
 | none=>exact Maps.has_false_of_atKey fun z=>by rw [h,hf]
 | some v=>exact Maps.has_true_of_atKey fun z=>by rw [h,hf]
section
variable {P: Program} {K: Act->World->Prop} {Q: Exit->Act->World->Prop} {a: Act} {w: World} {N: Nat} {m: Env} {D: List Deferred} {d: Nat} {ty: TypeId} {pos: String} {aft: Array Edge} {g: Option (Nat × Bool)}
variable {w0: World} {H0 H: PHeap} {L0 L: List Ent}
theorem o_makeMapV {t: TypeId} {k: TypeId} (hS: Step w0 H0 L0 w H L) (ha: Has D a N m) (hd: Nat.blt d N=true)
  (kk: ∀ b en a' w',MapV P k en b 0 (fun _=>none)->Step w0 H0 L0 w' H (en::L)->Has D a' N ((d,.map (some b))::m)->K a' w') :
  Oper.wp P ⟨some d,.makeMap t none,ty,pos,aft,g⟩ a w K Q:=by
 refine aM (v:=.map (some w.heap.size)) (w':=w.alloc (.map #[] 0)) J ha hd fun a' h=>kk w.heap.size _ a' _ ?_ (hS.alloc (.map #[] 0)) h;refine⟨.map #[] 0,.map [],rfl,fun W hW=>?_,Maps.isMap_empty,fun q z=>rfl⟩;obtain⟨es,clock,hb,F,hs,hD⟩:=World.ownsMap_made w P k RV;have hb':=heap_alloc_new w (.map #[] 0);rw [hb'] at hb;injection hb with hb
 injection hb with h1 h2
 subst h1 h2;exact⟨_,_,hW,F,hs,hD⟩
theorem owns_any {k b n: Nat} {Dm: DataW Value} (h: w.ownsMap P k RV b n Dm): ∃ es clock,w.heap[b]? =some (.map es clock)/\∀ W: World,W.heap[b]? =some (.map es clock)->W.ownsMap P k RV b n Dm:=by
 obtain⟨es,clock,hb,F,hs,hD⟩:=h;exact⟨es,clock,hb,fun W hW=>⟨es,clock,hW,F,hs,hD⟩⟩
theorem o_mapUpdV {x y z: Operand} {t k e b n: Nat} {f: Int->Option Value} {q: Int} {v: Value} {en: Ent} (ht: P.underlying t=some (.map k e)) (hk: P.underlying k=some (.int .i64)) (hS: Step w0 H0 L0 w H (en::L)) (hM: MapV P k en b n f) (ha: Has D a N m) (hx: ev m x=some (.map (some b))) (hy: ev m y=some (.int .i64 q)) (hz: ev m z=some v) (hq: -9223372036854775808<=q/\q<=9223372036854775807) (hn: n < maxLen)
  (kk: ∀ en' a' w',MapV P k en' b (n+1) (putF f q v)->Step w0 H0 L0 w' H (en'::L)->Has D a' N m->K a' w') :
  Oper.wp P ⟨none,.mapUpdate t x y z,ty,pos,aft,g⟩ a w K Q:=by
 obtain⟨o,Dm,rfl,hown,hmap,hat⟩:=hM;have hb: w.heap[b]? =some o:=hS.inv.at_ 0 J;obtain⟨w',hrun,hown',hgr⟩:=(hown w hb).update (Maps.int_keyed hk) ht hn (Maps.keyOf_int_mk hk (f5 hq)) (show RV v=some (.held v, []) from rfl);obtain⟨es,clock,hb',hany⟩:=owns_any hown';have hS':=hS.regrow (o:=.map es clock) hgr hb' (.inl J);unfold Oper.wp;simp [execOp,ha.ev hx,ha.ev hy,ha.ev hz,hrun];exact kk _ _ _ ⟨_,_,rfl,hany,hmap.put _ _,hat.put hmap q v⟩ hS' (ha.put_none _)
theorem fp {c1 c2: Code} (I: Act->World->Prop) (h1: c1.wp P (Exit.then I Q) a w) (h2: ∀ a w,I a w->c2.wp P Q a w):(Code.seq c1 c2).wp P Q a w:=
 wp_seq (wp_mono h1 fun e a w h=>by cases e with
  | normal=>exact h2 a w h
  | _=>exact h)
end
end Go.Vk
namespace Go.Vk
open Go.RowKit
section
variable {P: Program} {K: Act->World->Prop} {Q: Exit->Act->World->Prop} {D: List Deferred} {a: Act} {w: World} {N: Nat} {m: Env} {d: Nat} {ty: TypeId} {pos: String} {aft: Array Edge} {g: Option (Nat × Bool)} {w0: World} {H0 H: PHeap} {L0 L: List Ent}
theorem o_lookup1 {x y: Operand} {t k e b n i: Nat} {f: Int->Option Value} {q: Int} {en: Ent} {de: TypeDesc} {sz bytes: Nat} {z v: Value} (ht: P.underlying t=some (.map k e)) (hk: P.underlying k=some (.int .i64)) (T: Ty P e de sz bytes z) (hS: Step w0 H0 L0 w H L) (hi: L[i]? =some en) (hM: MapV P k en b n f) (ha: Has D a N m) (hx: ev m x=some (.map (some b))) (hy: ev m y=some (.int .i64 q)) (hq: -9223372036854775808<=q/\q<=9223372036854775807) (hf: f q=some v) (hd: Nat.blt d N=true)
  (kk: ∀ a',Has D a' N ((d,v)::m)->K a' w) :
  Oper.wp P ⟨some d,.lookup t x y false,ty,pos,aft,g⟩ a w K Q:=by
 obtain⟨o,Dm,rfl,hown,hmap,hat⟩:=hM;have hb: w.heap[b]? =some o:=hS.inv.at_ i hi;obtain⟨v',ps,hrun,hv⟩:=(hown w hb).lookup (Maps.int_keyed hk) ht (T.run_zero w) (show RV z=some (.held z, []) from rfl) (Maps.keyOf_int_mk hk (f5 hq));rw [hat] at hv;have hv': v'=v:=by
  unfold RV at hv;rw [hf] at hv;simp at hv;simp [hv.1]
 subst hv';refine aM ?_ ha hd kk;simp [execOp,ha.ev hx,ha.ev hy,hrun]
end
def timesN (t: Tm) (v: Int): Nat:=(nds t).countP fun x=>decide (x.kind=1)&&decide (x.n=v)
def moreN (t: Tm) (v: Int): Bool:=decide (1 < timesN t v)
section
variable (vars: List Wd) (mo: Int->Bool)
mutual
def bldS: Tm->HS × List Int->(HS × List Int) × Option Wd
 | .mk k n s l,st =>
  if k=1 then (st,some (if mo n then shW (vars.getD n.toNat Wd.zero) else vars.getD n.toNat Wd.zero))
  else if k=2 then (st,some ⟨1,n,⟨#[]⟩,false⟩)
  else if k=3 then (st,some ⟨2,0,s,false⟩)
  else if k=4 then (st,some ⟨3,0,s,false⟩)
  else match bldL l st with
   |(st',none)=>(st',none)
   |(st',some ws) =>
    if (st'.1.place (if k=5 then .fn s ws else .vec ws)).2 < 0 then (st',none) else (((st'.1.place (if k=5 then .fn s ws else .vec ws)).1,st'.2++ [(st'.1.place (if k=5 then .fn s ws else .vec ws)).2]),some ⟨if k=5 then 5 else 6,(st'.1.place (if k=5 then .fn s ws else .vec ws)).2,⟨#[]⟩,true⟩)
def bldL: List Tm->HS × List Int->(HS × List Int) × Option (List Wd)
 | [],st=>(st,some [])
 | t::ts,st=>match bldS t st with
  |(st',none)=>(st',none)
  |(st',some w)=>match bldL ts st' with
   |(st'',none)=>(st'',none)
   |(st'',some ws)=>(st'',some (w::ws))
end
end
section
variable {vars: List Wd} {mo: Int->Bool} {l: List Tm} {k: Nat} {st0 st: HS × List Int} {ws: List Wd} {t: Tm} {w: Wd}
theorem cA {ts: List Tm}: bldL vars mo (t::ts) st=match bldS vars mo t st with
  |(st',none)=>(st',none)
  |(st',some w)=>match bldL vars mo ts st' with
   |(st'',none)=>(st'',none)
   |(st'',some ws)=>(st'',some (w::ws)):=by rw [bldL]
def BTo (vars: List Wd) (mo: Int->Bool) (l: List Tm) (st0: HS × List Int) (k: Nat) (st: HS × List Int) (ws: List Wd): Prop:=bldL vars mo l st0=((bldL vars mo (l.drop k) st).1,(bldL vars mo (l.drop k) st).2.map (ws++ ·))
theorem BTo.zero: BTo vars mo l st0 0 st0 []:=by
 unfold BTo;rw [List.drop_zero]
 cases h:(bldL vars mo l st0).2 <;> simp [<- h]
theorem BTo.step (h: BTo vars mo l st0 k st ws) (ht: l[k]? =some t) {w: Wd} (hw:(bldS vars mo t st).2=some w): BTo vars mo l st0 (k+1) (bldS vars mo t st).1 (ws++ [w]):=by
 unfold BTo at h ⊢;have h1: bldS vars mo t st=((bldS vars mo t st).1,some w):=by rw [<- hw]
 rw [h,aO ht,cA,h1];dsimp only;obtain⟨st2,o⟩:=bldL vars mo (l.drop (k+1)) (bldS vars mo t st).1
 cases o with
 | none=>rfl
 | some us=>simp
theorem BTo.fail (h: BTo vars mo l st0 k st ws) (ht: l[k]? =some t) (hw:(bldS vars mo t st).2=none): bldL vars mo l st0=((bldS vars mo t st).1,none):=by
 unfold BTo at h;have h1: bldS vars mo t st=((bldS vars mo t st).1,none):=by rw [<- hw]
 rw [h,aO ht,cA,h1];rfl
theorem BTo.done (h: BTo vars mo l st0 k st ws) (hk: l.length<=k): bldL vars mo l st0=(st,some ws):=by
 unfold BTo at h;rw [h,List.drop_of_length_le hk,bldL];simp
end
section
variable {vars: List Wd} {mo: Int->Bool} {k n: Int} {s: ByteArray} {l: List Tm} {st st': HS × List Int} {ws: List Wd}
theorem dU (h: k=1): bldS vars mo (.mk k n s l) st=(st,some (if mo n then shW (vars.getD n.toNat Wd.zero) else vars.getD n.toNat Wd.zero)):=by rw [bldS,if_pos h]
theorem bldS_int (h1: ¬ k=1) (h: k=2): bldS vars mo (.mk k n s l) st=(st,some ⟨1,n,⟨#[]⟩,false⟩):=by rw [bldS,if_neg h1,if_pos h]
theorem bldS_atom (h1: ¬ k=1) (h2: ¬ k=2) (h: k=3): bldS vars mo (.mk k n s l) st=(st,some ⟨2,0,s,false⟩):=by rw [bldS,if_neg h1,if_neg h2,if_pos h]
theorem bldS_str (h1: ¬ k=1) (h2: ¬ k=2) (h3: ¬ k=3) (h: k=4): bldS vars mo (.mk k n s l) st=(st,some ⟨3,0,s,false⟩):=by rw [bldS,if_neg h1,if_neg h2,if_neg h3,if_pos h]
theorem bldS_none (h1: ¬ k=1) (h2: ¬ k=2) (h3: ¬ k=3) (h4: ¬ k=4) (h: bldL vars mo l st=(st',none)): bldS vars mo (.mk k n s l) st=(st',none):=by rw [bldS,if_neg h1,if_neg h2,if_neg h3,if_neg h4,h]
theorem cB (h1: ¬ k=1) (h2: ¬ k=2) (h3: ¬ k=3) (h4: ¬ k=4) (h: bldL vars mo l st=(st',some ws)) {b: PB} (hb:(if k=5 then PB.fn s ws else PB.vec ws)=b) {tg: Int} (ht:(if k=5 then (5: Int) else 6)=tg): bldS vars mo (.mk k n s l) st=if (st'.1.place b).2 < 0 then (st',none) else (((st'.1.place b).1,st'.2++ [(st'.1.place b).2]),some ⟨tg,(st'.1.place b).2,⟨#[]⟩,true⟩):=by
 rw [bldS,if_neg h1,if_neg h2,if_neg h3,if_neg h4,h];dsimp only;rw [hb,ht]
end
mutual
theorem eN (vars: List Wd) (mo: Int->Bool): ∀(t: Tm) (st: HS × List Int),(bldS vars mo t st).1.2.length<=st.2.length+t.sz
 | .mk k n s l,st=>by
  rw [bldS,Tm.sz];have h:=bldL_len vars mo l st
  split
  ·dsimp only;omega
  ·split
   ·dsimp only;omega
   ·split
    ·dsimp only;omega
    ·split
     ·dsimp only;omega
     ·split
      ·rename_i st' h1;rw [h1] at h;dsimp only at h ⊢;omega
      ·rename_i st' ws h1
       rw [h1] at h;dsimp only at h ⊢
       by_cases hp:(st'.1.place (if k=5 then PB.fn s ws else PB.vec ws)).2 < 0
       ·rw [if_pos hp];dsimp only;omega
       ·rw [if_neg hp];dsimp only;rw [List.length_append,List.length_cons,List.length_nil];omega
theorem bldL_len (vars: List Wd) (mo: Int->Bool): ∀(ts: List Tm) (st: HS × List Int),(bldL vars mo ts st).1.2.length<=st.2.length+Tm.szL ts
 | [],st=>Nat.le_add_right _ _
 | t::ts,st=>by
  rw [cA,Tm.szL];have h:=eN vars mo t st
  split
  ·rename_i h1;rw [h1] at h;dsimp only at h ⊢;omega
  ·rename_i st' w h1
   rw [h1] at h;have h2:=bldL_len vars mo ts st';dsimp only at h
   split
   ·rename_i h3;rw [h3] at h2;dsimp only at h2 ⊢;omega
   ·rename_i h3;rw [h3] at h2;dsimp only at h2 ⊢;omega
end
def BOK (vars: List Wd) (mo: Int->Bool) (f: Int->Option Value) (t: Tm): Prop:= ∀ x ∈ nds t,(x.kind=1->(0<=x.n/\x.n < vars.length)/\f x.n=some (.bool (mo x.n)))/\x.l.length<=64
theorem BOK.sub {vars: List Wd} {mo: Int->Bool} {f: Int->Option Value} {t u: Tm} {j: Nat} (h: BOK vars mo f t) (hu: t.l[j]? =some u): BOK vars mo f u:=fun x hx=>h x (by rw [dM,cc hu];simp [hx])
theorem BOK.self {vars: List Wd} {mo: Int->Bool} {f: Int->Option Value} {t: Tm} (h: BOK vars mo f t):(t.kind=1->(0<=t.n/\t.n < vars.length)/\f t.n=some (.bool (mo t.n)))/\t.l.length<=64:=h t (by rw [dM];exact List.mem_cons_self)
theorem szL_at {ts: List Tm} {k: Nat} {t: Tm} (h: ts[k]? =some t): Tm.szL (ts.take k)+t.sz<=Tm.szL ts:=by
 have h1:=congrArg List.length (cc h);rw [List.length_append,List.length_append,bW,bW,eH] at h1;omega
theorem szL_take_step {ts: List Tm} {k: Nat} {t: Tm} (h: ts[k]? =some t): Tm.szL (ts.take (k+1))=Tm.szL (ts.take k)+t.sz:=by
 have h1:=congrArg List.length (eq h);rw [List.length_append,bW,bW,eH] at h1;exact h1
def HS.build (h: HS) (t: Tm) (vars: List Wd): HS ×(Wd × Int):=
 if isTm t=false then (h,(Wd.zero,3)) else if allS h.S vars=false then (h,(Wd.zero,211)) else if (varsN [t]).any (fun v=>decide ((vars.length: Int)<=v)) then (h,(Wd.zero,1)) else
 match bldS vars (moreN t) t (h, []) with
 |(st,none)=>(st.2.foldl (fun g a=>g.clear a.toNat) st.1,(Wd.zero,210))
 |(st,some w)=>(st.1,(w,0))
def wdO: Option Wd->Wd
 | some w=>w
 | none=>Wd.zero
end Go.Vk
namespace Go.Vk
open Go.RowKit
mutual
theorem isR_nds: ∀ t: Tm,isR t=true->∀ x ∈ nds t,isR x=true
 | .mk k n s l,h,x,hx=>by
  rw [nds] at hx
  rcases List.mem_cons.1 hx with rfl | hx
  ·exact h
  ·exact isR_ndsL l (fun u hu=>isR_sub h hu) x hx
theorem isR_ndsL: ∀ ts: List Tm,(∀ u ∈ ts,isR u=true)->∀ x ∈ ndsL ts,isR x=true
 | [],_,x,hx=>by cases hx
 | t::ts,h,x,hx=>by
  rw [ndsL] at hx
  rcases List.mem_append.1 hx with hx | hx
  ·exact isR_nds t (h t List.mem_cons_self) x hx
  ·exact isR_ndsL ts (fun u hu=>h u (List.mem_cons_of_mem _ hu)) x hx
end
theorem bj {t: Tm} (h: isTm t=true): ∀ x ∈ nds t,nodeR x=true:=fun x hx=>isR_node (isR_nds t (by rw [<- cX];exact h) x hx)
theorem eG {t: Tm} (h: isTm t=true): t.sz<=4000:=(cF (by rw [<- cX];exact h)).1
theorem fe (t: Tm): ndsL [t]=nds t:=by rw [ndsL,ndsL,List.append_nil]
theorem szL_one (t: Tm): Tm.szL [t]=t.sz:=by rw [Tm.szL,Tm.szL];rfl
theorem isTm_vb {t: Tm} (h: isTm t=true): ∀ x ∈ ndsL [t],x.kind=1->0<=x.n/\x.n < 1000000:=by
 intro x hx hk;rw [fe] at hx;have:=cd (bj h x hx) hk;omega
theorem newV_mem {o: List Int} {v: Int} (h: v ∈ o) (x: Tm): v ∈ newV o x:=by
 unfold newV
 split
 ·exact List.mem_append_left _ h
 ·exact h
theorem fold_keep {v: Int}: ∀(ns: List Tm) (o: List Int),v ∈ o->v ∈ ns.foldl newV o
 | [],_,h=>h
 | x::ns,o,h=>fold_keep ns _ (newV_mem h x)
theorem fold_mem {x: Tm} (hk: x.kind=1): ∀(ns: List Tm) (o: List Int),x ∈ ns->x.n ∈ ns.foldl newV o
 | [],_,h=>by cases h
 | y::ns,o,h=>by
  rcases List.mem_cons.1 h with rfl | h
  ·refine fold_keep ns _ ?_
   by_cases hc: o.reverse.contains x.n=true
   ·exact newV_mem (by simpa using hc) x
   ·rw [newV_yes hk (by simpa using hc)];simp
  ·exact fold_mem hk ns _ h
theorem vars_mem {t x: Tm} (hx: x ∈ nds t) (hk: x.kind=1): x.n ∈ varsN [t]:=by
 unfold varsN;rw [fe];exact fold_mem hk _ _ hx
theorem newV_bd {o: List Int} {x: Tm} {p: Int->Prop} (ho: ∀ v ∈ o,p v) (hx: x.kind=1->p x.n): ∀ v ∈ newV o x,p v:=by
 unfold newV
 split
 ·rename_i h
  intro v hv
  rcases List.mem_append.1 hv with hv | hv
  ·exact ho v hv
  ·rw [List.mem_singleton.1 hv];exact hx h.1
 ·exact ho
theorem fK {p: Int->Prop}: ∀(ns: List Tm) (o: List Int),(∀ v ∈ o,p v)->(∀ x ∈ ns,x.kind=1->p x.n)->∀ v ∈ ns.foldl newV o,p v
 | [],_,ho,_=>ho
 | x::ns,o,ho,hn=>fK ns _ (newV_bd ho (hn x List.mem_cons_self)) (fun y hy=>hn y (List.mem_cons_of_mem _ hy))
theorem vars_bd {t: Tm} (h: isTm t=true): ∀ v ∈ varsN [t],0<=v/\v < 1000000:=fK _ _ (fun v hv=>by cases hv) (isTm_vb h)
theorem vars_len {t: Tm} (h: isTm t=true):(varsN [t]).length<=4000:=by
 have h1:=eZ (ndsL [t]) [];rw [bW,szL_one] at h1;have h2:=eG h;unfold varsN;simp at h1;omega
def cV (v: Int) (x: Tm): Bool:=decide (x.kind=1)&&decide (x.n=v)
theorem count_step {ns: List Tm} {k: Nat} {x: Tm} {v: Int} (h: ns[k]? =some x):(((ns.take (k+1)).countP (cV v): Nat): Int)=(((ns.take k).countP (cV v): Nat): Int)+if cV v x then 1 else 0:=by
 rw [List.take_add_one,h,List.countP_append]
 show ((_+List.countP (cV v) [x]: Nat): Int)=_
 rw [List.countP_singleton]
 cases cV v x <;> simp
def mapTo (t: Tm) (k: Nat): Int->Option Value:=((varsN [t]).take k).foldl (fun f v=>putF f v (.bool (moreN t v))) (fun _=>none)
theorem mapTo_step {t: Tm} {k: Nat} {v: Int} (h:(varsN [t])[k]? =some v): mapTo t (k+1)=putF (mapTo t k) v (.bool (moreN t v)):=by
 unfold mapTo;rw [List.take_add_one,h,List.foldl_append];rfl
theorem putF_keep {t: Tm} {v: Int}: ∀(vs: List Int) (f: Int->Option Value),f v=some (.bool (moreN t v))->vs.foldl (fun f v=>putF f v (.bool (moreN t v))) f v=some (.bool (moreN t v))
 | [],_,h=>h
 | u::vs,f,h=>putF_keep vs _ (by
  show putF f u _ v=_
  unfold putF
  split
  ·rename_i e;subst e;rfl
  ·exact h)
theorem putF_mem {t: Tm} {v: Int}: ∀(vs: List Int) (f: Int->Option Value),v ∈ vs->vs.foldl (fun f v=>putF f v (.bool (moreN t v))) f v=some (.bool (moreN t v))
 | [],_,h=>by cases h
 | u::vs,f,h=>by
  rcases List.mem_cons.1 h with rfl | h
  ·exact putF_keep vs _ (by show putF f v _ v=_;unfold putF;rw [if_pos J])
  ·exact putF_mem vs _ h
theorem bok_of {t: Tm} {vars: List Wd} (h: isTm t=true) (hv: ∀(k: Nat) (v: Int),(varsN [t])[k]? =some v->v < vars.length): BOK vars (moreN t) (mapTo t (varsN [t]).length) t:=by
 intro x hx;refine⟨fun hk=>?_,cG (bj h x hx)⟩;have hm:=vars_mem hx hk;obtain⟨k,hk2⟩:=List.getElem?_of_mem hm;refine⟨⟨(vars_bd h _ hm).1,hv k _ hk2⟩,?_⟩;unfold mapTo;rw [List.take_length];exact putF_mem _ _ hm
theorem anyle_none {vs: List Int} {n: Int} (h: ∀(k: Nat) (v: Int),vs[k]? =some v->v < n): vs.any (fun v=>decide (n<=v))=false:=by
 rw [List.any_eq_false];intro v hv;obtain⟨k,hk⟩:=List.getElem?_of_mem hv;have:=h k v hk;simpa using this
theorem anyle_some {vs: List Int} {n v: Int} {k: Nat} (hk: vs[k]? =some v) (h: n<=v): vs.any (fun v=>decide (n<=v))=true:=List.any_eq_true.2 ⟨v,List.mem_of_getElem? hk,by simpa using h⟩
section
variable {P: Program} {a: Act} {w w0: World} {H0 H: PHeap} {L0 L: List Ent} {N: Nat} {m: Env} {R: Ending->World->Prop}
theorem leaves_marks2 {fn: Func} {t t': Nat} {v v': Value} {tmps: Array Value} (hr: fn.results= #[.tmp t,.tmp t']) (hv: tmps[t]? =some v) (hv': tmps[t']? =some v'): ∀(rs: List Nat) (w: World) (L: List Ent),Step w0 H0 L0 w H (rs.map openBlk++L)->(∀ w',Step w0 H0 L0 w' H L->R (.returned (.tuple #[v,v'])) w')->LeavesInM Fence.wide 0 P fn tmps R (rs.map markOf) .returning w
 | [],w,L,hS,k=>⟨.tuple #[v,v'],by simp [results,hr,Array.getD_eq_getD_getElem?,hv,hv'],k w (by simpa using hS)⟩
 | r::rs,w,L,hS,k=>by
  have hb: w.heap[r]? =some (.deferred (some [])):=hS.inv.at_ 0 J;have hS':=(hS.putObj 0 (b:=r) J (.deferred none)).drop;exact⟨by simp,.inl ⟨r,w.putObj r (.deferred none),rfl,run_takeDeferred hb,leaves_marks2 hr hv hv' rs _ L hS' k⟩⟩
theorem retM2 {fn: Func} {t t': Nat} {v v': Value} {rs: List Nat} (hr: fn.results= #[.tmp t,.tmp t']) (hS: Step w0 H0 L0 w H (rs.map openBlk++L)) (ha: Has (rs.map markOf) a N m) (hv: lk m t=some v) (hv': lk m t'=some v') (k: ∀ w',Step w0 H0 L0 w' H L->R (.returned (.tuple #[v,v'])) w'): bodyPostM Fence.wide 0 P fn R .ret a w:=by
 show LeavesInM Fence.wide 0 P fn a.tmps R a.defers .returning w
 rw [ha.dfr];exact leaves_marks2 hr (ha.get t v hv) (ha.get t' v' hv') rs w L hS k
end
end Go.Vk
namespace Go.Vk
open Go.RowKit
structure MO (h: HS) (mk: List Int): Prop where
 ok: h.Ok
 at_: ∀ a ∈ mk,0<=a/\∃ b,h.S[a.toNat]? =some (some b)
 nd: mk.Nodup
theorem MO.nil {h: HS} (hO: h.Ok): MO h []:=⟨hO,(fun a ha=>by cases ha),List.nodup_nil⟩
theorem MO.place {h: HS} {mk: List Int} (hm: MO h mk) {b: PB} (hb: b.ok) (hp: ¬(h.place b).2 < 0): MO (h.place b).1 (mk++ [(h.place b).2]):=by
 have ho:=hm.ok.place hb;rw [bX] at hp ⊢
 rcases bJ h.tk b.size with h1 |⟨p,h1,h2,h3⟩
 ·omega
 ·have hs:=hb.size;have hl:=hm.ok.ltk;have hS:(h.place b).1.S=h.S.set p (some b):=by
   unfold HS.place;dsimp only;rw [if_neg hp,h1];rfl
  have hnew: ∀(c: PB),h.S[p]?≠some (some c):=by
   intro c hc;have h4:=(hm.ok.tkn p).2 ⟨p,c,hc,Nat.le_refl _,by have:=(hm.ok.blk p c hc).1.size;omega⟩;rw [h3 p (Nat.le_refl _) j0] at h4
   cases h4
  rw [h1];refine⟨ho,fun a ha=>?_,?_⟩
  ·rcases List.mem_append.1 ha with ha | ha
   ·obtain⟨h4,c,h5⟩:=hm.at_ a ha;exact⟨h4,c,place_keep hm.ok h5⟩
   ·rw [List.mem_singleton.1 ha];exact⟨by omega,b,by rw [hS,Int.toNat_natCast,List.getElem?_set,if_pos J,if_pos j0]⟩
  ·rw [List.nodup_append];refine⟨hm.nd,by simp,fun a ha c hc e=>?_⟩;rw [List.mem_singleton.1 hc] at e;obtain⟨_,d,h5⟩:=hm.at_ a ha;rw [e,Int.toNat_natCast] at h5;exact hnew d h5
theorem MO.clear {h: HS} {a: Int} {mk: List Int} (hm: MO h (a::mk)): MO (h.clear a.toNat) mk:=by
 obtain⟨h0,b,hb⟩:=hm.at_ a List.mem_cons_self;have hnd:=List.nodup_cons.1 hm.nd;have hg: h.S.getD a.toNat none=some b:=by rw [List.getD_eq_getElem?_getD,hb];rfl
 refine⟨hm.ok.clear _,fun c hc=>?_,hnd.2⟩;obtain⟨h1,d,hd⟩:=hm.at_ c (List.mem_cons_of_mem _ hc);refine⟨h1,d,?_⟩;unfold HS.clear;rw [hg]
 show (h.S.set _ _)[_]? =_
 rw [List.getElem?_set_ne]
 ·exact hd
 ·intro e;have: a=c:=by omega
  subst this;exact hnd.1 hc
mutual
theorem dT {vars: List Wd} {mo: Int->Bool}: ∀(t: Tm) (h: HS) (mk: List Int),(∀ x ∈ nds t,x.l.length<=64)->MO h mk->MO (bldS vars mo t (h,mk)).1.1 (bldS vars mo t (h,mk)).1.2
 | .mk k n s l,h,mk,hn,hm=>by
  have hl:=fy (vars:=vars) (mo:=mo) l h mk (fun x hx=>hn x (by rw [nds];exact List.mem_cons_of_mem _ hx)) hm;rw [bldS]
  split
  ·exact hm
  ·split
   ·exact hm
   ·split
    ·exact hm
    ·split
     ·exact hm
     ·split
      ·rename_i st' h1;rw [h1] at hl;exact hl.1
      ·rename_i st' ws h1
       rw [h1] at hl;have hw: ws.length<=64:=by rw [hl.2 ws rfl];exact hn (.mk k n s l) (by rw [nds];exact List.mem_cons_self)
       by_cases hp:(st'.1.place (if k=5 then PB.fn s ws else PB.vec ws)).2 < 0
       ·rw [if_pos hp];exact hl.1
       ·rw [if_neg hp];refine hl.1.place ?_ hp
        split
        ·exact hw
        ·exact hw
theorem fy {vars: List Wd} {mo: Int->Bool}: ∀(ts: List Tm) (h: HS) (mk: List Int),(∀ x ∈ ndsL ts,x.l.length<=64)->MO h mk->MO (bldL vars mo ts (h,mk)).1.1 (bldL vars mo ts (h,mk)).1.2/\∀ ws,(bldL vars mo ts (h,mk)).2=some ws->ws.length=ts.length
 | [],h,mk,_,hm=>by
  rw [bldL];exact⟨hm,fun ws hw=>by obtain rfl:=Option.some.inj hw;rfl⟩
 | t::ts,h,mk,hn,hm=>by
  have h1:=dT (vars:=vars) (mo:=mo) t h mk (fun x hx=>hn x (by rw [ndsL];exact List.mem_append_left _ hx)) hm;rw [cA]
  split
  ·rename_i st' e;rw [e] at h1;exact⟨h1,fun ws hw=>by cases hw⟩
  ·rename_i st' w e
   rw [e] at h1;have h2:=fy (vars:=vars) (mo:=mo) ts st'.1 st'.2 (fun x hx=>hn x (by rw [ndsL];exact List.mem_append_right _ hx)) h1
   split
   ·rename_i e2;rw [e2] at h2;exact⟨h2.1,fun ws hw=>by cases hw⟩
   ·rename_i e2
    rw [e2] at h2;exact⟨h2.1,fun ws hw=>by obtain rfl:=Option.some.inj hw;rw [List.length_cons,List.length_cons,h2.2 _ rfl]⟩
end
theorem HS.Ok.build {h: HS} (hO: h.Ok) (t: Tm) (vars: List Wd):(h.build t vars).1.Ok:=by
 unfold HS.build
 split
 ·exact hO
 ·rename_i h1
  have ht: isTm t=true:=by simpa using h1
  have hm:=dT (vars:=vars) (mo:=moreN t) t h [] (fun x hx=>cG (bj ht x hx)) (MO.nil hO)
  split
  ·exact hO
  ·split
   ·exact hO
   ·split
    ·rename_i st e
     rw [e] at hm;have key: ∀(mk: List Int) (g: HS),g.Ok->(mk.foldl (fun g a=>g.clear a.toNat) g).Ok:=by
      intro mk
      induction mk with
      | nil=>intro g hg;exact hg
      | cons a mk ih=>intro g hg;exact ih _ (hg.clear _)
     exact key st.2 st.1 hm.ok
    ·rename_i st w e
     rw [e] at hm;exact hm.ok
theorem clear_step {h: HS} {mk: List Int} {k: Nat} {a: Int} (ha: mk[k]? =some a):(mk.drop k).foldl (fun g a=>g.clear a.toNat) h=(mk.drop (k+1)).foldl (fun g a=>g.clear a.toNat) (h.clear a.toNat):=by
 rw [aO ha];rfl
end Go.Vk
namespace Go.Vk
open Go.RowKit
structure Ext (S S': PS): Prop where
 len: S'.length=S.length
 keep: ∀(j: Nat) (b: PB),S[j]? =some (some b)->S'[j]? =some (some b)
theorem Ext.refl (S: PS): Ext S S:=⟨rfl,fun _ _ h=>h⟩
theorem Ext.trans {S S' S'': PS} (h: Ext S S') (h': Ext S' S''): Ext S S'':=⟨h'.len.trans h.len,fun j b hj=>h'.keep j b (h.keep j b hj)⟩
theorem Ext.at_ {S S': PS} (h: Ext S S') {w: Wd} {b: PB} (hw: atS S w=some b): atS S' w=some b:=by
 obtain⟨h1,h2,h3,h4,h5⟩:=aD hw;exact(dm h1 (by rw [h.len];exact h2) h3 (h.keep _ _ h4)).trans (if_pos h5)
theorem atS_lit {S: PS} {w: Wd} (h: w.tag=1\/w.tag=2\/w.tag=3): atS S w=none:=by
 unfold atS atG
 split
 ·rfl
 ·split
  ·rename_i b hb
   rw [if_neg]
   cases b <;> simp only [PB.tag] <;> omega
  ·rfl
def Firm (S: PS) (w: Wd): Prop:=(w.tag=1\/w.tag=2\/w.tag=3)\/∃ b,atS S w=some b
theorem fol_ext {S S': PS} (h: Ext S S'): ∀(k: Nat) (w x: Wd),folS S k w=(x,true)->Firm S x->folS S' k w=(x,true)
 | 0,w,x,hf,_=>by simp [folS] at hf
 | k+1,w,x,hf,hx=>by
  unfold folS at hf ⊢
  cases ha: atS S w with
  | none =>
   rw [ha] at hf;obtain rfl: w=x:=congrArg Prod.fst hf
   rcases hx with hx |⟨b,hb⟩
   ·rw [atS_lit hx]
   ·rw [ha] at hb;cases hb
  | some b =>
   rw [ha] at hf;rw [h.at_ ha]
   match b,hf with
   | .var (y::ys) hk,hf=>exact fol_ext h k _ _ hf hx
   | .var [] hk,hf=>exact hf
   | .fn s l,hf=>exact hf
   | .vec l,hf=>exact hf
theorem fU {f g: Int->Wd->Int × Option Tm} (hfg: ∀ left w T r,f left w=(r,some T)->g left w=(r,some T)): ∀(ws: List Wd) (left r: Int) (Ts: List Tm),rdL f left ws=(r,some Ts)->rdL g left ws=(r,some Ts)
 | [],left,r,Ts,h=>h
 | w::ws,left,r,Ts,h=>by
  rw [rdL] at h ⊢;dsimp only at h ⊢
  cases hf: f left w with
  | mk r1 o =>
   rw [hf] at h
   cases o with
   | none=>cases h
   | some T =>
    rw [hfg _ _ _ _ hf];dsimp only at h ⊢
    cases hl: rdL f r1 ws with
    | mk r2 o2 =>
     rw [hl] at h
     cases o2 with
     | none=>simp at h
     | some Us =>
      rw [fU hfg ws _ _ _ hl];exact h
theorem gq {S S': PS} (h: Ext S S'): ∀(d: Nat) (left: Int) (w: Wd) (T: Tm) (r: Int),rdS S d left w=(r,some T)->rdS S' d left w=(r,some T)
 | 0,left,w,T,r,hr=>by simp [rdS] at hr
 | d+1,left,w,T,r,hr=>by
  by_cases hs:(followS S w).2=false\/left - 1 < 0
  ·rw [da (by rcases hs with h | h;exact .inl h;exact .inr (.inl h))] at hr;cases hr
  ·have hf:(followS S w).2=true:=by
    cases hh:(followS S w).2 with
    | true=>rfl
    | false=>exact absurd (.inl hh) hs
   have hl: 0<=left - 1:=Classical.byContradiction fun e=>hs (.inr j0);have firm: ∀(hx: Firm S (followS S w).1),followS S' w=followS S w:=by
    intro hx;have h1: folS S (S.length+1) w=((followS S w).1,true):=by
     rw [<- hf];rfl
    have h2:=fol_ext h _ _ _ h1 hx
    show folS S' (S'.length+1) w=_
    rw [h.len,h2,<- hf]
   by_cases h1:(followS S w).1.tag=1
   ·have he:=firm (.inl (.inl h1));rw [d9 hf hl h1] at hr;rw [d9 (by rw [he];exact hf) hl (by rw [he];exact h1),he];exact hr
   ·by_cases h2:(followS S w).1.tag=2
    ·have he:=firm (.inl (.inr (.inl h2)));rw [dw hf hl h1 h2] at hr;rw [dw (by rw [he];exact hf) hl (by rw [he];exact h1) (by rw [he];exact h2),he];exact hr
    ·by_cases h3:(followS S w).1.tag=3
     ·have he:=firm (.inl (.inr (.inr h3)));rw [ea hf hl h1 h2 h3] at hr;rw [ea (by rw [he];exact hf) hl (by rw [he];exact h1) (by rw [he];exact h2) (by rw [he];exact h3),he];exact hr
     ·rw [bN hf hl h1 h2 h3] at hr
      cases ha: atS S (followS S w).1 with
      | none=>rw [ha] at hr;cases hr
      | some b =>
       have he:=firm (.inr ⟨b,ha⟩);rw [bN (by rw [he];exact hf) hl (by rw [he];exact h1) (by rw [he];exact h2) (by rw [he];exact h3),he,h.at_ ha];rw [ha] at hr
       match b,hr with
       | .var to hk,hr=>exact hr
       | .fn s ws,hr =>
        dsimp only at hr ⊢
        cases hq: rdL (rdS S d) (left - 1) ws with
        | mk r2 o =>
         rw [hq] at hr
         cases o with
         | none=>simp at hr
         | some Ts=>rw [fU (fun left w T r hh=>gq h d left w T r hh) ws _ _ _ hq];exact hr
       | .vec ws,hr =>
        dsimp only at hr ⊢
        cases hq: rdL (rdS S d) (left - 1) ws with
        | mk r2 o =>
         rw [hq] at hr
         cases o with
         | none=>simp at hr
         | some Ts=>rw [fU (fun left w T r hh=>gq h d left w T r hh) ws _ _ _ hq];exact hr
def RdW (S: PS) (w: Wd) (T: Tm): Prop:= ∀(d: Nat) (left: Int),dep T<=d->(T.sz: Int)<=left->rdS S d left w=(left - T.sz,some T)
theorem RdW.ext {S S': PS} {w: Wd} {T: Tm} (h: RdW S w T) (he: Ext S S'): RdW S' w T:=fun d left h1 h2=>gq he _ _ _ _ _ (h d left h1 h2)
def RdWs (S: PS): List Wd->List Tm->Prop
 | [], []=>True
 | w::ws,T::Ts=>RdW S w T/\RdWs S ws Ts
 | _,_=>False
theorem RdWs.ext {S S': PS} (he: Ext S S'): ∀ {ws: List Wd} {Ts: List Tm},RdWs S ws Ts->RdWs S' ws Ts
 | [], [],_=>trivial
 | w::ws,T::Ts,h=>⟨h.1.ext he,RdWs.ext he h.2⟩
 | [],_::_,h=>h.elim
 | _::_, [],h=>h.elim
theorem RdWs.read {S: PS} {d: Nat}: ∀ {ws: List Wd} {Ts: List Tm} (left: Int),RdWs S ws Ts->depL Ts<=d->(Tm.szL Ts: Int)<=left->rdL (rdS S d) left ws=(left - Tm.szL Ts,some Ts)
 | [], [],left,_,_,_=>by rw [rdL,Tm.szL];simp
 | w::ws,T::Ts,left,h,hd,hl=>by
  rw [depL] at hd;rw [Tm.szL] at hl ⊢;have h1:=h.1 d left j0 j0;have h2:=RdWs.read (d:=d) (left - T.sz) h.2 j0 j0;rw [rdL,h1];dsimp only;rw [h2];simp only [Option.map_some]
  congr 1
  omega
 | [],_::_,_,h,_,_=>h.elim
 | _::_, [],_,h,_,_=>h.elim
theorem dH (k n: Int) (s: ByteArray) (l: List Tm):(Tm.mk k n s l).sz=1+Tm.szL l:=by rw [Tm.sz]
theorem dq (k n: Int) (s: ByteArray) (l: List Tm): dep (.mk k n s l)=depL l+1:=by rw [dep]
theorem RdW.blk {S: PS} {w: Wd} {b: PB} {T: Tm} {ws: List Wd} {Ts: List Tm} (ha: atS S w=some b) (hr: RdWs S ws Ts) (hb:(∃ s,b=.fn s ws/\T=.mk 5 0 s Ts)\/(b=.vec ws/\T=.mk 6 0 ⟨#[]⟩ Ts)): RdW S w T:=by
 have hf: followS S w=(w,true):=by
  unfold followS folS;rw [ha]
  rcases hb with ⟨s,rfl,_⟩ |⟨rfl,_⟩ <;> rfl
 have htag: w.tag=b.tag:=(aD ha).2.2.2.2;have ht: 4 < w.tag:=by
  rw [htag]
  rcases hb with ⟨s,rfl,_⟩ |⟨rfl,_⟩ <;> simp [PB.tag]
 intro d left h1 h2;have hs: T.sz=1+Tm.szL Ts:=by rcases hb with ⟨s,_,rfl⟩ |⟨_,rfl⟩ <;> exact dH _ _ _ _
 have hdp: dep T=depL Ts+1:=by rcases hb with ⟨s,_,rfl⟩ |⟨_,rfl⟩ <;> exact dq _ _ _ _
 obtain⟨d',rfl⟩: ∃ d',d=d'+1:=⟨d - 1,by omega⟩;rw [bN (by rw [hf]) j0 (by rw [hf];show ¬ w.tag=1;omega) (by rw [hf];show ¬ w.tag=2;omega) (by rw [hf];show ¬ w.tag=3;omega),hf];dsimp only;rw [ha];have hl:=hr.read (d:=d') (left - 1) j0 j0
 rcases hb with ⟨s,rfl,rfl⟩ |⟨rfl,rfl⟩
 ·dsimp only;rw [hl,hs];simp only [Option.map_some]
  congr 1
  omega
 ·dsimp only;rw [hl,hs];simp only [Option.map_some]
  congr 1
  omega
section
variable (vars: List Wd)
end
theorem nodeR_int {t: Tm} (h: nodeR t=true) (hk: t.kind=2): -2147483647<=t.n/\t.n<=2147483647:=by
 unfold nodeR at h;rw [if_neg j0,if_pos hk] at h;simp only [Bool.and_eq_true,decide_eq_true_eq] at h;exact h.1.1
theorem nodeR_str {t: Tm} (h: nodeR t=true) (hk: t.kind=4):(t.s.size: Int)<=255:=by
 unfold nodeR at h;rw [if_neg j0,if_neg j0,if_neg j0,if_pos hk] at h;simp only [Bool.and_eq_true,decide_eq_true_eq] at h;exact h.1.2
theorem d7 (n: Int) (s: ByteArray) (l: List Tm): nodeR (.mk 3 n s l)=((decide (n=0)&&nameB s)&&decide (((l.length: Nat): Int)=0)):=rfl
theorem nodeR_atom {t: Tm} (h: nodeR t=true) (hk: t.kind=3): nmB t.s=true:=by
 cases t with
 | mk k n s l =>
  have hk: k=3:=hk;subst hk;rw [d7,Bool.and_eq_true,Bool.and_eq_true] at h
  show nmB s=true
  unfold nmB;rw [cX];refine fL (by simp [Tm.sz,Tm.szL]) (by simp [dep,depL]) ?_;rw [bF,d7,h.1.2];rfl
structure Made (S: PS) (t: Tm) (w: Wd) (T: Tm): Prop where
 rd: RdW S w T
 word: wordS S w=true
 tag: t.kind=1\/¬ w.tag=4
theorem RdW.whole {S: PS} {w: Wd} {T: Tm} (h: RdW S w T) (hw: wordS S w=true) (hs: T.sz<=4000) (hd: dep T<=600): readS S w=(T,0):=by
 unfold readS;rw [if_neg (by rw [hw];simp),h 600 4000 hd j0]
end Go.Vk
namespace Go.Vk
open Go.RowKit
end Go.Vk
namespace Go.Vk
theorem cR {l gs: List Int} {k: Nat} {g: Int} (h: gs[k]? =some g): addG l (gs.drop k)=addG (if l.contains g then l else l++ [g]) (gs.drop (k+1)):=by
 rw [aO h,addG]
theorem addG_done {l gs: List Int} {k: Nat} (h: gs.length<=k): addG l (gs.drop k)=l:=by
 rw [List.drop_of_length_le h,addG]
end Go.Vk
namespace Go.Vk
section
variable (B: List Tm)
end
def VT (u: Tm): Prop:= ∃ j: Int,u=.mk 1 j ⟨#[]⟩ []/\0<=j/\j < 100000
theorem VT.sz {u: Tm} (h: VT u): u.sz=1:=by obtain⟨j,rfl,_⟩:=h;rw [Tm.sz,Tm.szL]
theorem VT.str {u: Tm} (h: VT u): strB u=true:=by obtain⟨j,rfl,_⟩:=h;rfl
theorem VT.free {u: Tm} (h: VT u): freeB u=false:=by obtain⟨j,rfl,_⟩:=h;rfl
theorem VT.at_ {B: List Tm} (h: ∀ u ∈ B,VT u) {k: Nat} {u: Tm} (hk: B[k]? =some u): VT u:=h u (List.mem_of_getElem? hk)
theorem nodeR_k2 (n: Int) (s: ByteArray) (l: List Tm): nodeR (.mk 2 n s l)=(((decide ((-2147483647)<=n)&&decide (n<=2147483647))&&decide (s=⟨#[]⟩))&&decide (((l.length: Nat): Int)=0)):=rfl
theorem nodeR_k4 (n: Int) (s: ByteArray) (l: List Tm): nodeR (.mk 4 n s l)=((decide (n=0)&&decide (((s.size: Nat): Int)<=255))&&decide (((l.length: Nat): Int)=0)):=rfl
theorem nodeR_k5 (n: Int) (s: ByteArray) (l: List Tm): nodeR (.mk 5 n s l)=(((decide (n=0)&&nameB s)&&decide (1<=((l.length: Nat): Int)))&&decide (((l.length: Nat): Int)<=16)):=rfl
theorem nodeR_k6 (n: Int) (s: ByteArray) (l: List Tm): nodeR (.mk 6 n s l)=((decide (n=0)&&decide (s=⟨#[]⟩))&&decide (((l.length: Nat): Int)<=64)):=rfl
end Go.Vk
namespace Go.Vk
def wdsO: Option PB->List Wd
 | some b=>b.words
 | none=> []
def refsOf (S: PS): List Wd:=S.flatMap wdsO
theorem refsOf_mem {S: PS} {w: Wd}: w ∈ refsOf S↔∃(j: Nat) (b: PB),S[j]? =some (some b)/\w ∈ b.words:=by
 unfold refsOf;rw [List.mem_flatMap]
 constructor
 ·rintro⟨o,h1,h2⟩
  cases o with
  | none=>cases h2
  | some b=>obtain ⟨j,hj⟩:=List.getElem?_of_mem h1;exact⟨j,b,hj,h2⟩
 ·rintro⟨j,b,h1,h2⟩;exact⟨some b,List.mem_of_getElem? h1,h2⟩
section
variable {h: HS} {ws ws' bs bs': List Wd} {w v x y: Wd}
end
end Go.Vk
namespace Go.Vk
section
variable {h h': HS} {ws ws' bs bs' pool pool': List Wd} {w v x y u: Wd}
theorem dD {S: PS}: ∀(k: Nat) (w x: Wd),folS S k w=(x,true)->∀ y ys hk,atS S x≠some (.var (y::ys) hk)
 | 0,w,x,h=>by rw [folS] at h;cases h
 | k+1,w,x,h=>by
  rw [folS] at h
  split at h
  ·exact dD k _ x h
  ·rename_i hn
   injection h with h1 _
   subst h1;intro y ys hk e;exact hn y ys hk e
end
end Go.Vk
namespace Go.Vk
section
variable {h h': HS} {ws ws' bs bs' pool pool': List Wd} {w v x y u: Wd}
end
end Go.Vk
namespace Go.Vk
open Go.RowKit
section
variable {h: HS} {ws bs pool: List Wd} {k: Int}
end
theorem rowW_release {w0 w: World} {H0 H: PHeap} {L0 L: List Ent} {A: Option Addr} {c e: Nat} {en: Ent} {xs: List Wd} (hR: Row (.slice A xs.length c) en e 4 xs.length (gfl Wd.cells xs)) (hS: Step w0 H0 L0 w H (en::L)) (hl: xs.length<=1048576) :
  ∃ H',Step w0 H0 L0 w H' L/\Le H H'/\RowG 4 Wd.cells H' A c xs:=by
 by_cases hne: xs= []
 ·subst hne;exact⟨H,hS.drop,Le.refl _,Nat.zero_le _,by simp,0,0,0,#[],(0,0),fun hn=>absurd J hn,fun j x hj=>by simp at hj⟩
 ·have h0: 0 < xs.length:=List.length_pos_iff.2 hne;obtain⟨x0,b,cap,cur,hx0,hv,rfl,hc0⟩:=hR.getG Wd.len j2 (j:=0) h0;injection hv with e1 e2 e3
  subst e1 e3;obtain⟨hS2,hle⟩:=hS.release;refine⟨_,hS2,hle,Row.cap hR,hl,b,0,e,cur,(0,0),fun _=>⟨rfl,?_⟩,fun j x hj i u hu=>?_⟩
  ·unfold PHeap.put;simp
  ·obtain⟨x1,b1,cap1,cur1,hx1,hv1,he1,hc1⟩:=hR.getG Wd.len j2 (j:=j) (List.getElem?_eq_some_iff.1 hj).1;injection he1 with e4 e5
   injection e5 with e6
   subst e6;rw [hj] at hx1;obtain rfl:=Option.some.inj hx1;exact hc1 i u hu
end Go.Vk
namespace Go.Vk
def occV (n: Int) (t: Tm): Bool:=(nds t).any fun x=>decide (x.kind=1)&&decide (x.n=n)
structure StV where
 kd: Int
 a: Int
 b: Int
 c: Int
def StV.cells (x: StV): List Value:= [.int .i64 x.kd,.int .i64 x.a,.int .i64 x.b,.int .i64 x.c]
theorem StV.len (x: StV): x.cells.length=4:=rfl
end Go.Vk
namespace Go.Vk
section
variable {h h': HS} {ws ws' bs bs' pool: List Wd} {w v x y u: Wd}
end
end Go.Vk
namespace Go.Vk
section
variable {h h': HS} {ws ws' bs bs' pool: List Wd} {w v x y u: Wd}
end
end Go.Vk
namespace Go.Vk
section
variable (a: Int) (U: Tm)
end
inductive Fol (S: PS): Wd->Wd->Prop
 | stop {w: Wd} (h: ∀ z zs hk,atS S w≠some (.var (z::zs) hk)): Fol S w w
 | next {w z x: Wd} {zs: List Wd} {hk: List Int} (h: atS S w=some (.var (z::zs) hk)) (hf: Fol S (nxtW w z) x): Fol S w x
theorem fol_of {S: PS}: ∀(k: Nat) (w x: Wd),folS S k w=(x,true)->Fol S w x
 | 0,w,x,h=>by rw [folS] at h;cases h
 | k+1,w,x,h=>by
  rw [folS] at h
  split at h
  ·rename_i z zs hk hb
   exact .next hb (fol_of k _ x h)
  ·rename_i hn
   injection h with h1 _
   subst h1;exact .stop fun z zs hk e=>hn z zs hk e
theorem Fol.end_ {S: PS} {w x: Wd} (h: Fol S w x): ∀ z zs hk,atS S x≠some (.var (z::zs) hk):=by
 induction h with
 | stop h=>exact h
 | next _ _ ih=>exact ih
theorem Fol.trans {S: PS} {w x y: Wd} (h: Fol S w x) (hx: Fol S x y): Fol S w y:=by
 induction h with
 | stop _=>exact hx
 | next h _ ih=>exact .next h (ih hx)
inductive RdE (S: PS): Nat->Wd->Tm->Prop
 | int {d: Nat} {w x: Wd} (hf: Fol S w x) (h: x.tag=1): RdE S (d+1) w (.mk 2 x.n ⟨#[]⟩ [])
 | atom {d: Nat} {w x: Wd} (hf: Fol S w x) (h: x.tag=2): RdE S (d+1) w (.mk 3 0 x.s [])
 | str {d: Nat} {w x: Wd} (hf: Fol S w x) (h: x.tag=3): RdE S (d+1) w (.mk 4 0 x.s [])
 | var {d: Nat} {w x: Wd} {hk: List Int} (hf: Fol S w x) (h: atS S x=some (.var [] hk)): RdE S (d+1) w (.mk 1 x.n ⟨#[]⟩ [])
 | fn {d: Nat} {w x: Wd} {s: ByteArray} {ws: List Wd} {Ts: List Tm} (hf: Fol S w x) (h: atS S x=some (.fn s ws)) (hl: ws.length=Ts.length) (hr: ∀(i: Nat) z T,ws[i]? =some z->Ts[i]? =some T->RdE S d z T): RdE S (d+1) w (.mk 5 0 s Ts)
 | vec {d: Nat} {w x: Wd} {ws: List Wd} {Ts: List Tm} (hf: Fol S w x) (h: atS S x=some (.vec ws)) (hl: ws.length=Ts.length) (hr: ∀(i: Nat) z T,ws[i]? =some z->Ts[i]? =some T->RdE S d z T): RdE S (d+1) w (.mk 6 0 ⟨#[]⟩ Ts)
theorem fT {f: Int->Wd->Int × Option Tm} {P: Wd->Tm->Prop}: ∀ {ws: List Wd} {l r: Int} {Ts: List Tm},(∀ w ∈ ws,∀ l r T,f l w=(r,some T)->P w T)->rdL f l ws=(r,some Ts)->ws.length=Ts.length/\∀(i: Nat) z T,ws[i]? =some z->Ts[i]? =some T->P z T
 | [],l,r,Ts,_,h=>by
  rw [rdL] at h;injection h with _ h
  obtain rfl:=Option.some.inj h;exact⟨rfl,fun i z T hz=>by simp at hz⟩
 | w::ws,l,r,Ts,hf,h=>by
  rw [rdL] at h;dsimp only at h
  cases hq: f l w with
  | mk r1 o =>
   rw [hq] at h
   cases o with
   | none=>cases h
   | some T1 =>
    dsimp only at h
    cases hq2: rdL f r1 ws with
    | mk r2 o2 =>
     rw [hq2] at h
     cases o2 with
     | none=>cases h
     | some Us =>
      injection h with _ h
      obtain rfl:=Option.some.inj h;obtain⟨h1,h2⟩:=fT (fun x hx=>hf x (List.mem_cons_of_mem _ hx)) hq2;refine⟨by simp [h1],fun i z T hz hT=>?_⟩
      cases i with
      | zero =>
       obtain rfl: w=z:=by simpa using hz
       obtain rfl: T1=T:=by simpa using hT
       exact hf _ List.mem_cons_self _ _ _ hq
      | succ i=>exact h2 i z T (by simpa using hz) (by simpa using hT)
theorem rd_E {S: PS}: ∀(d: Nat) (l r: Int) (w: Wd) (T: Tm),rdS S d l w=(r,some T)->RdE S d w T
 | 0,l,r,w,T,h=>by rw [rdS] at h;cases h
 | d+1,l,r,w,T,h=>by
  rw [rdS] at h;dsimp only at h
  split at h
  ·cases h
  ·rename_i hn
   have hf2:(followS S w).2=true:=by
    cases e:(followS S w).2 with
    | true=>rfl
    | false=>exact absurd (.inl e) hn
   have hF: Fol S w (followS S w).1:=fol_of _ _ _ (Prod.ext J hf2)
   split at h
   ·rename_i h1
    injection h with _ h
    obtain rfl:=Option.some.inj h;exact .int hF h1
   ·split at h
    ·rename_i h1
     injection h with _ h
     obtain rfl:=Option.some.inj h;exact .atom hF h1
    ·split at h
     ·rename_i h1
      injection h with _ h
      obtain rfl:=Option.some.inj h;exact .str hF h1
     ·split at h
      ·cases h
      ·rename_i to hk hb
       injection h with _ h
       obtain rfl:=Option.some.inj h
       cases to with
       | nil=>exact .var hF hb
       | cons z zs=>exact absurd hb (hF.end_ _ _ _)
      ·rename_i s ws hb
       cases hq: rdL (rdS S d) (l - 1) ws with
       | mk r2 o2 =>
        rw [hq] at h
        cases o2 with
        | none=>cases h
        | some Ts =>
         injection h with _ h
         obtain rfl:=Option.some.inj h;obtain⟨g1,g2⟩:=fT (P:=RdE S d) (fun w _ l r T hw=>rd_E d l r w T hw) hq;exact .fn hF hb g1 g2
      ·rename_i ws hb
       cases hq: rdL (rdS S d) (l - 1) ws with
       | mk r2 o2 =>
        rw [hq] at h
        cases o2 with
        | none=>cases h
        | some Ts =>
         injection h with _ h
         obtain rfl:=Option.some.inj h;obtain⟨g1,g2⟩:=fT (P:=RdE S d) (fun w _ l r T hw=>rd_E d l r w T hw) hq;exact .vec hF hb g1 g2
inductive Stp (S: PS): Wd->Wd->Prop
 | refl {w: Wd}: Stp S w w
 | step {w z v: Wd} {zs: List Wd} {hk: List Int} (h: atS S w=some (.var (z::zs) hk)) (hs: Stp S (nxtW w z) v): Stp S w v
theorem Stp.trans {S: PS} {w v u: Wd} (h: Stp S w v) (h': Stp S v u): Stp S w u:=by
 induction h with
 | refl=>exact h'
 | step h _ ih=>exact .step h (ih h')
theorem Stp.rest {S: PS} {w v x: Wd} (h: Stp S w v) (hf: Fol S w x): Fol S v x:=by
 induction h with
 | refl=>exact hf
 | step h _ ih =>
  cases hf with
  | stop h2=>exact absurd h (h2 _ _ _)
  | next h2 hf2 =>
   rw [h] at h2;injection Option.some.inj h2 with e1 e2
   injection e1 with e3 e4
   subst e3;exact ih hf2
theorem RdE.on {S: PS} {d: Nat} {w v: Wd} {T: Tm} (h: RdE S d w T) (hs: Stp S w v): RdE S d v T:=by
 cases h with
 | int hf h=>exact .int (hs.rest hf) h
 | atom hf h=>exact .atom (hs.rest hf) h
 | str hf h=>exact .str (hs.rest hf) h
 | var hf h=>exact .var (hs.rest hf) h
 | fn hf h hl hr=>exact .fn (hs.rest hf) h hl hr
 | vec hf h hl hr=>exact .vec (hs.rest hf) h hl hr
section
variable {S: PS} {a: Nat} {y: Wd} {hk0: List Int}
end
end Go.Vk
namespace Go.Vk
open Go.RowKit
theorem dg (n: Int): isR (.mk 2 n ⟨#[]⟩ [])=(decide (-2147483647<=n)&&decide (n<=2147483647)):=by
 unfold isR;rw [dH,dq,Tm.szL,depL,nodesR,nodesRL,nodeR_k2];simp
theorem dh (s: ByteArray): isR (.mk 3 0 s [])=nmB s:=(cX _).symm
theorem ey (x: RbV):((x.b.2.size: Nat): Int)=if x.b.2.kind=1 then 1 else 1+(x.b.2.words.length: Int):=by
 obtain⟨⟨j,b⟩,A,c,A2,c2⟩:=x
 cases b with
 | var to hk=>rfl
 | fn s l=>show ((l.length+1: Nat): Int)=_;simp [PB.kind,PB.words];omega
 | vec l=>show ((l.length+1: Nat): Int)=_;simp [PB.kind,PB.words];omega
end Go.Vk
namespace Go.Vk.Tryz
open Go.RowKit
theorem fC {w0: World} {H: PHeap} (hI: Inv w0 H []) {x: RbV} (hw: x.b.2.words.length<=100000): Calls prog 98 #[(.agg #[(iV ((x.b.1: Nat): Int)),(iV x.b.2.kind),(.string x.b.2.nm),(.slice x.A x.b.2.words.length x.c),(.bool x.b.2.bound),(.slice x.A2 x.b.2.hooks.length x.c2)])] w0 (Rs w0 H (iV ((x.b.2.size: Nat): Int))):=by
 have F:=Step.refl hI;refine enter [(.agg #[(iV ((x.b.1: Nat): Int)),(iV x.b.2.kind),(.string x.b.2.nm),(.slice x.A x.b.2.words.length x.c),(.bool x.b.2.bound),(.slice x.A2 x.b.2.hooks.length x.c2)])] func98 J ntmps98 J fun a C=>?_;refine wp_seq (ab (lin J (aG (cs:= #[(iV ((x.b.1: Nat): Int)),(iV x.b.2.kind),(.string x.b.2.nm),(.slice x.A x.b.2.words.length x.c),(.bool x.b.2.bound),(.slice x.A2 x.b.2.hooks.length x.c2)]) F C J J J fun I a w F C=>?_)));refine Ls J C fun a C=>?_;refine wpList_nil (aa (wp_seq (wp_seq (ab (lin J (ac (f:=1) (o2:=1) T140 T3 J J J J C J J fun a C=>?_))))));refine lin J (ae (v:=(iV x.b.2.kind)) T3 J C J (F.blkL 0 J) J J fun a C=>?_);refine lin J (aJ (i:=x.b.2.kind) (j:=1) C J J J fun a C=>?_);refine wpList_nil (aa (ai (t:=5) C J (fun G C=>?_) (fun G C=>?_)))
 ·refine ao C J (wp_seq (ab (Ls J C fun a C=>?_)));refine wpList_nil (aa (wp_ret (af (ret1 J C J ?_))));have F:=F.drop;rw [ey,if_pos G];exact⟨rfl,F.plain⟩
 ·refine ag C J (wp_skip (aa (wp_seq (ab (lin J (ac (f:=3) (o2:=3) T140 T37 J J J J C J J fun a C=>?_))))));refine lin J (ae (v:=(.slice x.A x.b.2.words.length x.c)) T37 J C J (F.blkL 0 J) J J fun a C=>?_);refine lin J (aI T37.und C J J fun a C=>?_);refine lin J (aF (i:=1) (j:=((x.b.2.words.length: Nat): Int)) C J J J j0 fun a C=>?_);refine Ls J C fun a C=>?_;refine wpList_nil (aa (wp_ret (ret1 J C J ?_)));have F:=F.drop;rw [ey,if_neg G];exact⟨rfl,F.plain⟩
theorem dB {w0: World} {H: PHeap} {r: Nat} {S: PS} {es eb: Ent} (hI: Inv w0 H [es,eb]) (hK: RK r S H es eb) (hSl: S.length<=65536) {a_: Int}: Calls prog 126 #[(pB r),(iV a_)] w0 (fun e w'=>e=.returned (iV (fdI (enB 0 S) a_))/\Step w0 H [es,eb] w' H [es,eb]):=by
 obtain⟨xs,A,c,rfl,X,a3,I⟩:=hK;have F:=Step.refl hI;have aj:=bI I;have ak:=bn S 0;have ah:=Row.cap X;refine enter [(pB r),(iV a_)] func126 J ntmps126 J fun a C=>?_;refine wp_seq (ab (Ls J C fun a C=>?_));refine wpList_nil (aa (wp_seq (wp_seq (ab (Ls J C fun a C=>?_)))));refine wpList_nil (aa (wp_block (aL (fun a8 a w=> ∃(k: Nat),a8=xs.length - k/\Has [] a 26 [(0,(pB r)),(1,(iV a_)),(5,(iV ((k: Nat): Int)))]/\Step w0 H [(some r,.cells #[.int .i64 (S.length: Int),.slice A xs.length c] 133 (0,0)),eb] w H [(some r,(.cells #[(iV ((S.length: Nat): Int)),(.slice A xs.length c)] 133 (0,0))),eb]/\(k<=xs.length)/\(∀(j: Nat) (y: RbV),j < k->xs[j]? =some y->¬((y.b.1: Nat): Int)=a_)) _ ⟨0,rfl,C.pk J,F,j0,(fun j y h=>by omega)⟩ ?_)));intro ap a w a6;obtain⟨k,al,C,F,hk,T⟩:=a6;refine wp_seq (wp_seq (ab (Lm J C fun a C=>?_)));refine Lm J C fun a C=>?_;refine lin J (aE C J J fun a C=>?_);refine lin J (ac (f:=1) (o2:=1) T133 T131 J J J J C J J fun a C=>?_);refine lin J (ae (v:=(.slice A xs.length c)) T131 J C J (F.blkL 0 J) J J fun a C=>?_);refine lin J (aI T131.und C J J fun a C=>?_);refine lin J (aQ (i:=((k: Nat): Int)) (j:=((xs.length: Nat): Int)) C J J J fun a C=>?_);refine wpList_nil (aa (ai (t:=12) C J (fun h2 C=>?_) (fun h2 C=>?_)))
 ·refine ao C J (wp_skip (aa (wp_seq (wp_block (wp_seq (ab (Lm J C fun a C=>?_)))))));refine lin J (aE C J J fun a C=>?_);refine lin J (ac (f:=1) (o2:=1) T133 T131 J J J J C J J fun a C=>?_);refine lin J (ae (v:=(.slice A xs.length c)) T131 J C J (F.blkL 0 J) J J fun a C=>?_);refine Lm J C fun a C=>?_;obtain⟨Z,M,a9,a0,V,a7,a5,a4⟩:=Row.getG RbV.len j2 X (j:=k) j0;have a2:(A: Option Addr)=some ⟨M,0,none⟩:=by injection a7
  obtain⟨an,am⟩:=AllRv.at_ a3 V;refine lin J (az (b:=M) (o:=0) (j:=k) T131.und T140 a2 C J J j0 j0 J fun a C=>?_);refine lin J (ac (f:=0) (o2:=(0+k * 6+0)) T140 T3 J J J J C J J fun a C=>?_);refine lin J (ae (v:=(iV ((Z.b.1: Nat): Int))) T3 J C J (F.blkL 1 (b:=M) (o:=.cells a0 140 (0,0)) (by rw [<- a5];rfl)) (a4 0 _ J) J fun a C=>?_);refine Lm J C fun a C=>?_;refine lin J (aJ (i:=((Z.b.1: Nat): Int)) (j:=a_) C J J J fun a C=>?_);refine wpList_nil (aa (ai (t:=24) C J (fun O C=>?_) (fun O C=>?_)))
  ·refine ao C J (wp_seq (ab (Lm J C fun a C=>?_)));refine Ls J C fun a C=>?_;refine wpList_nil (aa (wp_ret (av (af (af (av (af (ret1 J C J ?_))))))));rw [show fdI (enB 0 S) a_=(k: Int) from fdI_at (gm I V) O fun j y Y G he=>by obtain⟨v,hv,rfl⟩:=map_at' I G;exact T j v Y hv he];exact⟨rfl,F⟩
  ·refine ag C J (wp_skip (ar (aa (ab (Lm J C fun a C=>?_)))));refine lin J (aF (i:=((k: Nat): Int)) (j:=1) C J J J j0 fun a C=>?_);refine Ls J C fun a C=>?_;refine wpList_nil (aa (?_));exact⟨xs.length - (k+1),by omega,(k+1),rfl,C.pk J,F,j0,(fun j y Y G=>by
     by_cases a1: j=k
     ·subst a1;rw [V] at G;obtain rfl:=Option.some.inj G;exact O
     ·exact T j y j0 G)⟩
 ·refine ag C J (wp_exit (aw (aw (aH (aa (wp_seq (ab (Ls J C fun a C=>?_))))))));refine wpList_nil (aa (wp_ret (ret1 J C J ?_)));rw [show fdI (enB 0 S) a_= -1 from fdI_none fun j y G he=>by obtain⟨v,hv,rfl⟩:=map_at' I G;exact T j v (by have ad:=(List.getElem?_eq_some_iff.1 hv).1;omega) hv he];exact⟨rfl,F⟩
theorem c_rReference {w0: World} {H: PHeap} (hI: Inv w0 H []) {x: Wd}: Calls prog 127 #[(.agg #[(iV x.tag),(iV x.n),(.string x.s),(.bool x.one)])] w0 (Rs w0 H (.bool (refB x))):=by
 have F:=Step.refl hI;refine enter [(.agg #[(iV x.tag),(iV x.n),(.string x.s),(.bool x.one)])] func127 J ntmps127 J fun a C=>?_;refine wp_seq (ab (lin J (aG (cs:= #[(iV x.tag),(iV x.n),(.string x.s),(.bool x.one)]) F C J J J fun I a w F C=>?_)));refine Ls J C fun a C=>?_;refine wpList_nil (aa (wp_seq (bH (D:= []) (N:=11) (E:= [(1,(pB I)),(2,(.bool ((decide (4<=x.tag))&&(decide (x.tag<=6)))))]) (fun a C=>?_) ?_)));rotate_left
 ·refine lin J (ac (f:=0) (o2:=0) T35 T3 J J J J C J J fun a C=>?_);refine lin J (ae (v:=(iV x.tag)) T3 J C J (F.blkL 0 J) J J fun a C=>?_);refine lin J (co (i:=x.tag) (j:=4) C J J J fun a C=>?_);refine Lm J C fun a C=>?_;refine ai (t:=6) C J (fun G C=>?_) (fun G C=>?_)
  ·refine ad J C J J J (ac (f:=0) (o2:=0) T35 T3 J J J J C J J fun a C=>?_);refine ad J C J J J (ae (v:=(iV x.tag)) T3 J C J (F.blkL 0 J) J J fun a C=>?_);refine ad J C J J J (cY (i:=x.tag) (j:=6) C J J J fun a C=>?_);refine lin J (an C J J J fun a C=>?_);refine Ls J C fun a C=>?_;exact wpList_nil ⟨rfl,rfl,Has.cons C J (Has.cons C (by simp [lk,Nat.beq,G]) (C.nil))⟩
  ·refine Lf J C J J fun a C=>?_;refine Lf J C J J fun a C=>?_;refine Lf J C J J fun a C=>?_;refine lin J (ak C J J J fun a C=>?_);refine Ls J C fun a C=>?_;exact wpList_nil ⟨rfl,rfl,Has.cons C J (Has.cons C (by simp [lk,Nat.beq,G]) (C.nil))⟩
 refine aa (wp_ret (ret1 J C J ?_));have F:=F.drop;refine⟨congrArg _ (congrArg _ ?_),F.plain⟩;unfold refB;rw [Bool.eq_iff_iff];simp only [Bool.and_eq_true,Bool.or_eq_true,decide_eq_true_eq];omega
theorem c_rShared {w0: World} {H: PHeap} (hI: Inv w0 H []) {x: Wd}: Calls prog 133 #[(.agg #[(iV x.tag),(iV x.n),(.string x.s),(.bool x.one)])] w0 (Rs w0 H (wv (shW x))):=by
 have F:=Step.refl hI;refine enter [(.agg #[(iV x.tag),(iV x.n),(.string x.s),(.bool x.one)])] func133 J ntmps133 J fun a C=>?_;refine wp_seq (ab (lin J (aG (cs:= #[(iV x.tag),(iV x.n),(.string x.s),(.bool x.one)]) F C J J J fun G a w F C=>?_)));refine lin J (aB (cs:= #[(iV 0),(iV 0),(.string (⟨#[]⟩)),(.bool false)]) T35 F C J J fun I a w F C=>?_);refine wpList_nil (aa (wp_seq (ab (lin J (am (vs:= [(iV x.tag),(iV x.n),(.string x.s),(.bool x.one)]) T35 J C J (F.blkL 1 J) J (aj J) J fun a C=>?_)))));refine lin J (aB (cs:= #[(iV 0),(iV 0),(.string (⟨#[]⟩)),(.bool false)]) T35 F C J J fun M a w F C=>?_);refine lin J (al (cs':= #[(iV x.tag),(iV x.n),(.string x.s),(.bool x.one)]) T35 F (i:=0) J C J J J J J J fun a w F C=>?_);refine wpList_nil (aa (wp_seq (ab (lin J (ac (f:=3) (o2:=3) T35 T4 J J J J C J J fun a C=>?_)))));refine lin J (al (cs':= #[(iV x.tag),(iV x.n),(.string x.s),(.bool false)]) T4 F (i:=0) J C J J J J J J fun a w F C=>?_);refine wpList_nil (aa (wp_seq (ab (lin J (am (vs:= [(iV x.tag),(iV x.n),(.string x.s),(.bool false)]) T35 J C J (F.blkL 0 J) J (aj J) J fun a C=>?_)))));refine lin J (al (cs':= #[(iV x.tag),(iV x.n),(.string x.s),(.bool false)]) T35 F (i:=1) J C J J J J J J fun a w F C=>?_);refine wpList_nil (aa (wp_ret (retA (i:=1) (cs:= #[(iV x.tag),(iV x.n),(.string x.s),(.bool false)]) J T35 J F J C J J ?_)));refine⟨congrArg _ ?_,F.plain.drop_all⟩;rfl
end Go.Vk.Tryz
namespace Go.Vk.Tryz
open Go.RowKit
theorem dW {w0: World} {H: PHeap} {r: Nat} {S: PS} {es eb: Ent} (hI: Inv w0 H [es,eb]) (hK: RK r S H es eb) (hSl: S.length<=65536) {x: Wd} (hz: x.s.size<=2000000): Calls prog 125 #[(pB r),(.agg #[(iV x.tag),(iV x.n),(.string x.s),(.bool x.one)])] w0 (fun e w'=>e=.returned (.bool (wordS S x))/\Step w0 H [es,eb] w' H [es,eb]):=by
 obtain⟨xs,A,c,rfl,aw,a9,b1⟩:=hK;have F:=Step.refl hI;have cd:=bI b1;have ce:=bn S 0;have cb:=Row.cap aw;refine enter [(pB r),(.agg #[(iV x.tag),(iV x.n),(.string x.s),(.bool x.one)])] func125 J ntmps125 J fun a C=>?_;refine wp_seq (ab (lin J (aG (cs:= #[(iV x.tag),(iV x.n),(.string x.s),(.bool x.one)]) F C J J J fun V a w F C=>?_)));refine Ls J C fun a C=>?_;refine wpList_nil (aa (wp_seq (wp_seq (ab (lin J (ac (f:=0) (o2:=0) T35 T3 J J J J C J J fun a C=>?_))))));refine lin J (ae (v:=(iV x.tag)) T3 J C J (F.blkL 0 J) J J fun a C=>?_);refine wpList_nil (aa (wp_block (wp_seq (ab (lin J (aJ (i:=x.tag) (j:=1) C J J J fun a C=>?_))))));refine Ls J C fun a C=>?_;refine wpList_nil (aa (ai (t:=8) C J (fun T C=>?_) (fun T C=>?_)))
 ·refine ao C J (wp_seq (ab (lin J (ac (f:=2) (o2:=2) T35 T9 J J J J C J J fun a C=>?_))));refine lin J (ae (v:=(.string x.s)) T9 J C J (F.blkL 0 J) J J fun a C=>?_);refine lin J (dG C J J J fun a C=>?_);refine Lm J C fun a C=>?_;refine ai (t:=13) C J (fun b9 C=>?_) (fun b9 C=>?_)
  ·refine ad J C J J J (ac (f:=3) (o2:=3) T35 T4 J J J J C J J fun a C=>?_);refine ad J C J J J (ae (v:=(.bool x.one)) T4 J C J (F.blkL 0 J) J J fun a C=>?_);refine ad J C J J J (aK C J J fun a C=>?_);refine lin J (an C J J J fun a C=>?_);refine Lm J C fun a C=>?_;refine au (t:=18) C J (fun bc C=>?_) (fun bc C=>?_)
   ·refine ad J C J J J (ac (f:=1) (o2:=1) T35 T3 J J J J C J J fun a C=>?_);refine ad J C J J J (ae (v:=(iV x.n)) T3 J C J (F.blkL 0 J) J J fun a C=>?_);refine ad J C J J J (aA (vs:= [(0,(iV 2)),(1,(iV x.n))]) (cells:= [(iV 2),(iV x.n),(.string (⟨#[]⟩)),(.slice none 0 0)]) T41 PL41 C (C.evp J) J J fun a C=>?_);have bt:=dA (t:=(Tm.mk 2 x.n (⟨#[]⟩) [])) F.inv.nil (RowT.nil _) (by rw [dH,Tm.szL];omega) (by rw [strB,strBL];first | done |(simp;done) |(simp;omega) | decide);refine ad J C J J J (Co func122 C J (bt) ?_);rintro e w ⟨rfl,a3⟩;refine⟨_,rfl,fun a C=>?_⟩;have F:=F.call a3;refine ad J C J J J (aJ (i:=(if isR (Tm.mk 2 x.n (⟨#[]⟩) []) then (0: Int) else 3)) (j:=0) C J J J fun a C=>?_);refine lin J (an C J J J fun a C=>?_);refine Ls J C fun a C=>?_;refine wpList_nil (aa (wp_ret (av (af (ret1 J C J ?_)))));have F:=F.drop;refine⟨congrArg _ (congrArg _ ?_),F⟩;unfold wordS;rw [if_pos T]
    all_goals simp [dg,dh, *]
   ·refine Lf J C J J fun a C=>?_;refine Lf J C J J fun a C=>?_;refine Lf J C J J fun a C=>?_;refine Lf J C J J fun a C=>?_;refine Lf J C J J fun a C=>?_;refine lin J (ak C J J J fun a C=>?_);refine Ls J C fun a C=>?_;refine wpList_nil (aa (wp_ret (av (af (ret1 J C J ?_)))));have F:=F.drop;refine⟨congrArg _ (congrArg _ ?_),F⟩;unfold wordS;rw [if_pos T]
    all_goals simp [dg,dh, *]
  ·refine Lf J C J J fun a C=>?_;refine Lf J C J J fun a C=>?_;refine Lf J C J J fun a C=>?_;refine lin J (ak C J J J fun a C=>?_);refine Lm J C fun a C=>?_;refine Lf J C J J fun a C=>?_;refine Lf J C J J fun a C=>?_;refine Lf J C J J fun a C=>?_;refine Lf J C J J fun a C=>?_;refine Lf J C J J fun a C=>?_;refine lin J (ak C J J J fun a C=>?_);refine Ls J C fun a C=>?_;refine wpList_nil (aa (wp_ret (av (af (ret1 J C J ?_)))));have F:=F.drop;refine⟨congrArg _ (congrArg _ ?_),F⟩;unfold wordS;rw [if_pos T]
   all_goals simp [dg,dh, *]
 ·refine ag C J (wp_seq (ab (lin J (aJ (i:=x.tag) (j:=2) C J J J fun a C=>?_))));refine Ls J C fun a C=>?_;refine wpList_nil (aa (ai (t:=25) C J (fun X C=>?_) (fun X C=>?_)))
  ·refine ao C J (wp_seq (ab (lin J (ac (f:=1) (o2:=1) T35 T3 J J J J C J J fun a C=>?_))));refine lin J (ae (v:=(iV x.n)) T3 J C J (F.blkL 0 J) J J fun a C=>?_);refine lin J (aJ (i:=x.n) (j:=0) C J J J fun a C=>?_);refine Lm J C fun a C=>?_;refine ai (t:=30) C J (fun bf C=>?_) (fun bf C=>?_)
   ·refine ad J C J J J (ac (f:=3) (o2:=3) T35 T4 J J J J C J J fun a C=>?_);refine ad J C J J J (ae (v:=(.bool x.one)) T4 J C J (F.blkL 0 J) J J fun a C=>?_);refine ad J C J J J (aK C J J fun a C=>?_);refine lin J (an C J J J fun a C=>?_);refine Lm J C fun a C=>?_;refine au (t:=35) C J (fun bg C=>?_) (fun bg C=>?_)
    ·refine ad J C J J J (ac (f:=2) (o2:=2) T35 T9 J J J J C J J fun a C=>?_);refine ad J C J J J (ae (v:=(.string x.s)) T9 J C J (F.blkL 0 J) J J fun a C=>?_);refine ad J C J J J (aA (vs:= [(0,(iV 3)),(2,(.string x.s))]) (cells:= [(iV 3),(iV 0),(.string x.s),(.slice none 0 0)]) T41 PL41 C (C.evp J) J J fun a C=>?_);have bq:=dA (t:=(Tm.mk 3 0 x.s [])) F.inv.nil (RowT.nil _) (by rw [dH,Tm.szL];omega) (by rw [strB,strBL];first | done |(simp;done) |(simp;omega) | decide);refine ad J C J J J (Co func122 C J (bq) ?_);rintro e w ⟨rfl,a3⟩;refine⟨_,rfl,fun a C=>?_⟩;have F:=F.call a3;refine ad J C J J J (aJ (i:=(if isR (Tm.mk 3 0 x.s []) then (0: Int) else 3)) (j:=0) C J J J fun a C=>?_);refine lin J (an C J J J fun a C=>?_);refine Ls J C fun a C=>?_;refine wpList_nil (aa (wp_ret (av (af (ret1 J C J ?_)))));have F:=F.drop;refine⟨congrArg _ (congrArg _ ?_),F⟩;unfold wordS;rw [if_neg T,if_pos X]
     all_goals simp [dg,dh, *]
    ·refine Lf J C J J fun a C=>?_;refine Lf J C J J fun a C=>?_;refine Lf J C J J fun a C=>?_;refine Lf J C J J fun a C=>?_;refine Lf J C J J fun a C=>?_;refine lin J (ak C J J J fun a C=>?_);refine Ls J C fun a C=>?_;refine wpList_nil (aa (wp_ret (av (af (ret1 J C J ?_)))));have F:=F.drop;refine⟨congrArg _ (congrArg _ ?_),F⟩;unfold wordS;rw [if_neg T,if_pos X]
     all_goals simp [dg,dh, *]
   ·refine Lf J C J J fun a C=>?_;refine Lf J C J J fun a C=>?_;refine Lf J C J J fun a C=>?_;refine lin J (ak C J J J fun a C=>?_);refine Lm J C fun a C=>?_;refine Lf J C J J fun a C=>?_;refine Lf J C J J fun a C=>?_;refine Lf J C J J fun a C=>?_;refine Lf J C J J fun a C=>?_;refine Lf J C J J fun a C=>?_;refine lin J (ak C J J J fun a C=>?_);refine Ls J C fun a C=>?_;refine wpList_nil (aa (wp_ret (av (af (ret1 J C J ?_)))));have F:=F.drop;refine⟨congrArg _ (congrArg _ ?_),F⟩;unfold wordS;rw [if_neg T,if_pos X]
    all_goals simp [dg,dh, *]
  ·refine ag C J (wp_seq (ab (lin J (aJ (i:=x.tag) (j:=3) C J J J fun a C=>?_))));refine Ls J C fun a C=>?_;refine wpList_nil (aa (ai (t:=42) C J (fun Z C=>?_) (fun Z C=>?_)))
   ·refine ao C J (wp_seq (bH (D:= []) (N:=88) (E:= [(3,(pB V)),(4,(.bool (((decide (x.n=0))&&(!x.one))&&(decide ((((x.s).size: Nat): Int)<=255)))))]) (fun a C=>?_) ?_));rotate_left
    ·refine lin J (ac (f:=1) (o2:=1) T35 T3 J J J J C J J fun a C=>?_);refine lin J (ae (v:=(iV x.n)) T3 J C J (F.blkL 0 J) J J fun a C=>?_);refine lin J (aJ (i:=x.n) (j:=0) C J J J fun a C=>?_);refine Lm J C fun a C=>?_;refine ai (t:=47) C J (fun a7 C=>?_) (fun a7 C=>?_)
     ·refine ad J C J J J (ac (f:=3) (o2:=3) T35 T4 J J J J C J J fun a C=>?_);refine ad J C J J J (ae (v:=(.bool x.one)) T4 J C J (F.blkL 0 J) J J fun a C=>?_);refine ad J C J J J (aK C J J fun a C=>?_);refine lin J (an C J J J fun a C=>?_);refine Lm J C fun a C=>?_;refine au (t:=52) C J (fun al C=>?_) (fun al C=>?_)
      ·refine ad J C J J J (ac (f:=2) (o2:=2) T35 T9 J J J J C J J fun a C=>?_);refine ad J C J J J (ae (v:=(.string x.s)) T9 J C J (F.blkL 0 J) J J fun a C=>?_);refine ad J C J J J (cy T9.und C J J fun a C=>?_);refine ad J C J J J (cY (i:=(((x.s).size: Nat): Int)) (j:=255) C J J J fun a C=>?_);refine lin J (an C J J J fun a C=>?_);refine Ls J C fun a C=>?_;exact wpList_nil ⟨rfl,rfl,Has.cons C J (Has.cons C (by simp [lk,Nat.beq,T,X,Z,a7,al]) (C.nil))⟩
      ·refine Lf J C J J fun a C=>?_;refine Lf J C J J fun a C=>?_;refine Lf J C J J fun a C=>?_;refine Lf J C J J fun a C=>?_;refine lin J (ak C J J J fun a C=>?_);refine Ls J C fun a C=>?_;exact wpList_nil ⟨rfl,rfl,Has.cons C J (Has.cons C (by simp [lk,Nat.beq,T,X,Z,a7,al]) (C.nil))⟩
     ·refine Lf J C J J fun a C=>?_;refine Lf J C J J fun a C=>?_;refine Lf J C J J fun a C=>?_;refine lin J (ak C J J J fun a C=>?_);refine Lm J C fun a C=>?_;refine Lf J C J J fun a C=>?_;refine Lf J C J J fun a C=>?_;refine Lf J C J J fun a C=>?_;refine Lf J C J J fun a C=>?_;refine lin J (ak C J J J fun a C=>?_);refine Ls J C fun a C=>?_;exact wpList_nil ⟨rfl,rfl,Has.cons C J (Has.cons C (by simp [lk,Nat.beq,T,X,Z,a7]) (C.nil))⟩
    refine aa (wp_ret (av (af (ret1 J C J ?_))));have F:=F.drop;refine⟨congrArg _ (congrArg _ ?_),F⟩;unfold wordS;rw [if_neg T,if_neg X,if_pos Z]
    all_goals simp [dg,dh, *]
   ·refine ag C J (fp (fun a w=> ∃(a6: PHeap),∃(ah: Bool),Le H a6/\Has [] a 88 [(0,(pB r)),(3,(pB V)),(58,(.bool ah))]/\Step w0 H [(some r,.cells #[.int .i64 (S.length: Int),.slice A xs.length c] 133 (0,0)),eb] w a6 [(some V,(.cells #[(iV x.tag),(iV x.n),(.string x.s),(.bool x.one)] 35 (0,0))),(some r,(.cells #[(iV ((S.length: Nat): Int)),(.slice A xs.length c)] 133 (0,0))),eb]/\(ah=refB x)/\(H=a6)) ?_ ?_)
    ·refine wp_seq (ab (lin J (aJ (i:=x.tag) (j:=4) C J J J fun a C=>?_)));refine Ls J C fun a C=>?_;refine wpList_nil (aa (ai (t:=58) C J (fun a8 C=>?_) (fun a8 C=>?_)))
     ·refine ao C J (wp_skip (aa (?_)));exact⟨H,true,(Le.refl _),C.pk J,F,(by unfold refB;simp [a8]),rfl⟩
     ·refine ag C J (wp_seq (ab (lin J (aJ (i:=x.tag) (j:=5) C J J J fun a C=>?_))));refine Ls J C fun a C=>?_;refine wpList_nil (aa (ai (t:=58) C J (fun am C=>?_) (fun am C=>?_)))
      ·refine ao C J (wp_skip (aa (?_)));exact⟨H,true,(Le.refl _),C.pk J,F,(by unfold refB;simp [a8,am]),rfl⟩
      ·refine ag C J (ab (lin J (aJ (i:=x.tag) (j:=6) C J J J fun a C=>?_)));refine Ls J C fun a C=>?_;refine wpList_nil (aa (?_));exact⟨H,(decide (x.tag=6)),(Le.refl _),C.pk J,F,(by unfold refB;simp [a8,am]),rfl⟩
    ·intro a w bp;obtain⟨a6,ah,bv,C,F,c1,bi⟩:=bp;have a9:=a9.mono bv;obtain rfl: ah=refB x:=c1;subst bi;refine au (t:=58) C J (fun a1 C=>?_) (fun a1 C=>?_)
     ·refine ao C J (wp_seq (ab (Lm J C fun a C=>?_)));refine lin J (ac (f:=1) (o2:=1) T35 T3 J J J J C J J fun a C=>?_);refine lin J (ae (v:=(iV x.n)) T3 J C J (F.blkL 0 J) J J fun a C=>?_);have br:=dB (a_:=x.n) (F.tail [(some V,(.cells #[(iV x.tag),(iV x.n),(.string x.s),(.bool x.one)] 35 (0,0)))]) ⟨_,_,_,rfl,aw,a9,b1⟩ hSl;refine lin J (Co func126 C J (br) ?_);rintro e w ⟨rfl,a3⟩;refine⟨_,rfl,fun a C=>?_⟩;have F:=F.frameR [(some V,(.cells #[(iV x.tag),(iV x.n),(.string x.s),(.bool x.one)] 35 (0,0)))] a3;refine Ls J C fun a C=>?_;refine wpList_nil (aa (wp_seq ?_))
      by_cases a5: x.s=⟨#[]⟩
      ·rcases atS_fd S x with ⟨ax,bj⟩ |⟨Y,cm,aj,ax,c0,cf,cc,b8,ca⟩
       ·rw [ax] at C;have b2:=F;refine bD ba [FcV (.pointer (some ⟨V,2,none⟩)),FcV (.string x.s),FcV (.bool true),FcV (.bool true),FcV (iV (-1)),FcV (.bool false),FcV (.bool false),FcV (.bool false),FcV undef,FcV undef,FcV undef,FcV undef,FcV undef,FcV undef,FcV undef,FcV undef,FcV undef,FcV undef,FcV undef,FcV undef,FcV undef,FcV (.bool false),FcV (.bool false)] (N:=88) (E:= [(0,(pB r)),(3,(pB V)),(5,(iV (-1)))]) mixed J Mq F (C.pk J) (.c4 ?_ ?_ ?_ ?_ (.c4 ?_ ?_ ?_ ?_ (.c4 ?_ ?_ ?_ ?_ (.c4 ?_ ?_ ?_ ?_ (.c4 ?_ ?_ ?_ ?_ (.c2 ?_ ?_ (.cons ?_ (.nil)))))))) (fun a w c6 bw F C a4=>?_)
        ·refine Qz J fun a w F C G=>?_;exact ac (f:=2) (o2:=2) T35 T9 J J J J C J J fun a C=>qe C F
        ·refine Qz1 0 J fun a w F C G=>?_;exact ae (v:=(.string x.s)) T9 J C J (F.blkL 0 J) J J fun a C=>qe C F
        ·refine Qz1 1 J fun a w F C G=>?_;refine id (dG C J J J fun a C=>?_);rw [show (decide (x.s=⟨#[]⟩))=true from decide_eq_true a5] at C;exact qe C F
        ·refine Qz1 2 J fun a w F C G=>?_;exact aq C J J fun a C=>qe C F
        ·intro a w M I F C G;subst I;obtain⟨_,C,rfl⟩:=G.g C 3 J;rw [if_pos (ay J C J J J)];exact aq C J J fun a C=>qe C F
        ·intro a w M I F C G;subst I;obtain⟨_,C,rfl⟩:=G.g C 4 J;obtain⟨_,C,rfl⟩:=G.g C 3 J;rw [if_pos (ay J C J J J)];refine id (co (i:=(-1)) (j:=0) C J J J fun a C=>?_);rw [show (decide (0<=(-1)))=false from decide_eq_false j0] at C;exact qe C F
        ·refine Qz1 3 J fun a w F C G=>?_;obtain⟨_,C,rfl⟩:=G.g C 5 J;exact an C J J J fun a C=>qe C F
        ·refine Qz1 6 J fun a w F C G=>?_;exact aq C J J fun a C=>qe C F
        ·intro a w M I F C G;subst I;obtain⟨_,C,rfl⟩:=G.g C 7 J;rw [if_neg (ap J J C J J J)];intro d O;rfl
        ·intro a w M I F C G;subst I;obtain⟨_,C,rfl⟩:=G.g C 8 J;obtain⟨_,C,rfl⟩:=G.g C 7 J;rw [if_neg (ap J J C J J J)];intro d O;rfl
        ·intro a w M I F C G;subst I;obtain⟨_,C,rfl⟩:=G.g C 9 J;obtain⟨_,C,rfl⟩:=G.g C 7 J;rw [if_neg (ap J J C J J J)];intro d O;rfl
        ·intro a w M I F C G;subst I;obtain⟨_,C,rfl⟩:=G.g C 10 J;obtain⟨_,C,rfl⟩:=G.g C 7 J;rw [if_neg (ap J J C J J J)];intro d O;rfl
        ·intro a w M I F C G;subst I;obtain⟨_,C,rfl⟩:=G.g C 7 J;rw [if_neg (ap J J C J J J)];intro d O;rfl
        ·intro a w M I F C G;subst I;obtain⟨_,C,rfl⟩:=G.g C 11 J;obtain⟨_,C,rfl⟩:=G.g C 12 J;obtain⟨_,C,rfl⟩:=G.g C 7 J;rw [if_neg (ap J J C J J J)];intro d O;rfl
        ·intro a w M I F C G;subst I;obtain⟨_,C,rfl⟩:=G.g C 13 J;obtain⟨_,C,rfl⟩:=G.g C 7 J;rw [if_neg (ap J J C J J J)];intro d O;rfl
        ·intro a w M I F C G;subst I;obtain⟨_,C,rfl⟩:=G.g C 14 J;obtain⟨_,C,rfl⟩:=G.g C 7 J;rw [if_neg (ap J J C J J J)];intro d O;rfl
        ·intro a w M I F C G;subst I;obtain⟨_,C,rfl⟩:=G.g C 7 J;rw [if_neg (ap J J C J J J)];intro d O;rfl
        ·intro a w M I F C G;subst I;obtain⟨_,C,rfl⟩:=G.g C 16 J;obtain⟨_,C,rfl⟩:=G.g C 7 J;rw [if_neg (ap J J C J J J)];intro d O;rfl
        ·intro a w M I F C G;subst I;obtain⟨_,C,rfl⟩:=G.g C 17 J;obtain⟨_,C,rfl⟩:=G.g C 7 J;rw [if_neg (ap J J C J J J)];intro d O;rfl
        ·intro a w M I F C G;subst I;obtain⟨_,C,rfl⟩:=G.g C 18 J;obtain⟨_,C,rfl⟩:=G.g C 7 J;rw [if_neg (ap J J C J J J)];intro d O;rfl
        ·intro a w M I F C G;subst I;obtain⟨_,C,rfl⟩:=G.g C 15 J;obtain⟨_,C,rfl⟩:=G.g C 19 J;obtain⟨_,C,rfl⟩:=G.g C 7 J;rw [if_neg (ap J J C J J J)];intro d O;rfl
        ·refine Qz1 7 J fun a w F C G=>?_;obtain⟨_,C,rfl⟩:=G.g C 20 J;exact ak C J J J fun a C=>qe C F
        ·refine Qz1 21 J fun a w F C G=>?_;exact bu C J J fun a C=>qe C F
        subst bw;obtain⟨_,C,rfl⟩:=Dd C a4 22 J;refine aa (wp_ret (av (af (ret1 J C J ?_))));have F:=F.drop;refine⟨congrArg _ (congrArg _ ?_),F⟩;unfold wordS;rw [if_neg T,if_neg X,if_neg Z];rw [show refB x=true from a1];rw [bj];rfl
       ·rw [ax] at C;obtain⟨c5,b5,bl⟩:=map_at' b1 c0;have ch:=(List.getElem?_eq_some_iff.1 b5).1;have cj: 4<=x.tag/\x.tag<=6:=by
         have b3: refB x=true:=a1;unfold refB at b3;simp only [Bool.or_eq_true,decide_eq_true_eq] at b3;omega
        have b2:=F;obtain⟨a0,a2,c9,b7,b6,c3,bo,bm⟩:=Row.getG RbV.len j2 aw (j:=Y) j0;have bh:(A: Option Addr)=some ⟨a2,0,none⟩:=by injection c3
        obtain⟨ci,cg⟩:=AllRv.at_ a9 b6;refine bD ba [FcV (.pointer (some ⟨V,2,none⟩)),FcV (.string x.s),FcV (.bool true),FcV (.bool true),FcV (iV ((Y: Nat): Int)),FcV (.bool true),FcV (.bool true),FcV (.bool true),FcV (pB r),FcV (pB r),FcV (.pointer (some ⟨r,1,none⟩)),FcV (.slice A xs.length c),FcV (iV ((Y: Nat): Int)),FcV (.pointer (some ⟨a2,0+Y * 6,none⟩)),FcV (.pointer (some ⟨a2,(0+Y * 6+1),none⟩)),FcV (iV a0.b.2.kind),FcV (pB V),FcV (iV x.tag),FcV (iV (x.tag - 4)),FcV (iV ((x.tag - 4)+1)),FcV (.bool (decide (a0.b.2.kind=((x.tag - 4)+1)))),FcV (.bool (decide (a0.b.2.kind=((x.tag - 4)+1)))),FcV (.bool (decide (a0.b.2.kind=((x.tag - 4)+1))))] (N:=88) (E:= [(0,(pB r)),(3,(pB V)),(5,(iV ((Y: Nat): Int)))]) mixed J Mq F (C.pk J) (.c4 ?_ ?_ ?_ ?_ (.c4 ?_ ?_ ?_ ?_ (.c4 ?_ ?_ ?_ ?_ (.c4 ?_ ?_ ?_ ?_ (.c4 ?_ ?_ ?_ ?_ (.c2 ?_ ?_ (.cons ?_ (.nil)))))))) (fun a w c7 bx F C a4=>?_)
        ·refine Qz J fun a w F C G=>?_;exact ac (f:=2) (o2:=2) T35 T9 J J J J C J J fun a C=>qe C F
        ·refine Qz1 0 J fun a w F C G=>?_;exact ae (v:=(.string x.s)) T9 J C J (F.blkL 0 J) J J fun a C=>qe C F
        ·refine Qz1 1 J fun a w F C G=>?_;refine id (dG C J J J fun a C=>?_);rw [show (decide (x.s=⟨#[]⟩))=true from decide_eq_true a5] at C;exact qe C F
        ·refine Qz1 2 J fun a w F C G=>?_;exact aq C J J fun a C=>qe C F
        ·intro a w M I F C G;subst I;obtain⟨_,C,rfl⟩:=G.g C 3 J;rw [if_pos (ay J C J J J)];exact aq C J J fun a C=>qe C F
        ·intro a w M I F C G;subst I;obtain⟨_,C,rfl⟩:=G.g C 4 J;obtain⟨_,C,rfl⟩:=G.g C 3 J;rw [if_pos (ay J C J J J)];refine id (co (i:=((Y: Nat): Int)) (j:=0) C J J J fun a C=>?_);rw [show (decide (0<=((Y: Nat): Int)))=true from decide_eq_true (Int.natCast_nonneg _)] at C;exact qe C F
        ·refine Qz1 3 J fun a w F C G=>?_;obtain⟨_,C,rfl⟩:=G.g C 5 J;exact an C J J J fun a C=>qe C F
        ·refine Qz1 6 J fun a w F C G=>?_;exact aq C J J fun a C=>qe C F
        ·intro a w M I F C G;subst I;obtain⟨_,C,rfl⟩:=G.g C 7 J;rw [if_pos (ay J C J J J)];exact aq C J J fun a C=>qe C F
        ·intro a w M I F C G;subst I;obtain⟨_,C,rfl⟩:=G.g C 8 J;obtain⟨_,C,rfl⟩:=G.g C 7 J;rw [if_pos (ay J C J J J)];exact aE C J J fun a C=>qe C F
        ·intro a w M I F C G;subst I;obtain⟨_,C,rfl⟩:=G.g C 9 J;obtain⟨_,C,rfl⟩:=G.g C 7 J;rw [if_pos (ay J C J J J)];exact ac (f:=1) (o2:=1) T133 T131 J J J J C J J fun a C=>qe C F
        ·intro a w M I F C G;subst I;obtain⟨_,C,rfl⟩:=G.g C 10 J;obtain⟨_,C,rfl⟩:=G.g C 7 J;rw [if_pos (ay J C J J J)];exact ae (v:=(.slice A xs.length c)) T131 J C J (F.blkL 1 J) J J fun a C=>qe C F
        ·intro a w M I F C G;subst I;obtain⟨_,C,rfl⟩:=G.g C 7 J;rw [if_pos (ay J C J J J)];exact aq C J J fun a C=>qe C F
        ·intro a w M I F C G;subst I;obtain⟨_,C,rfl⟩:=G.g C 11 J;obtain⟨_,C,rfl⟩:=G.g C 12 J;obtain⟨_,C,rfl⟩:=G.g C 7 J;rw [if_pos (ay J C J J J)];exact az (b:=a2) (o:=0) (j:=Y) T131.und T140 bh C J J j0 j0 J fun a C=>qe C F
        ·intro a w M I F C G;subst I;obtain⟨_,C,rfl⟩:=G.g C 13 J;obtain⟨_,C,rfl⟩:=G.g C 7 J;rw [if_pos (ay J C J J J)];exact ac (f:=1) (o2:=(0+Y * 6+1)) T140 T3 J J J J C J J fun a C=>qe C F
        ·intro a w M I F C G;subst I;obtain⟨_,C,rfl⟩:=G.g C 14 J;obtain⟨_,C,rfl⟩:=G.g C 7 J;rw [if_pos (ay J C J J J)];exact ae (v:=(iV a0.b.2.kind)) T3 J C J (F.blkL 2 (b:=a2) (o:=.cells b7 140 (0,0)) (by rw [<- bo];rfl)) (bm 1 _ J) J fun a C=>qe C F
        ·intro a w M I F C G;subst I;obtain⟨_,C,rfl⟩:=G.g C 7 J;rw [if_pos (ay J C J J J)];exact ac (f:=0) (o2:=0) T35 T3 J J J J C J J fun a C=>qe C F
        ·intro a w M I F C G;subst I;obtain⟨_,C,rfl⟩:=G.g C 16 J;obtain⟨_,C,rfl⟩:=G.g C 7 J;rw [if_pos (ay J C J J J)];exact ae (v:=(iV x.tag)) T3 J C J (F.blkL 0 J) J J fun a C=>qe C F
        ·intro a w M I F C G;subst I;obtain⟨_,C,rfl⟩:=G.g C 17 J;obtain⟨_,C,rfl⟩:=G.g C 7 J;rw [if_pos (ay J C J J J)];exact cK (i:=x.tag) (j:=4) C J J J j0 fun a C=>qe C F
        ·intro a w M I F C G;subst I;obtain⟨_,C,rfl⟩:=G.g C 18 J;obtain⟨_,C,rfl⟩:=G.g C 7 J;rw [if_pos (ay J C J J J)];exact aF (i:=(x.tag - 4)) (j:=1) C J J J j0 fun a C=>qe C F
        ·intro a w M I F C G;subst I;obtain⟨_,C,rfl⟩:=G.g C 15 J;obtain⟨_,C,rfl⟩:=G.g C 19 J;obtain⟨_,C,rfl⟩:=G.g C 7 J;rw [if_pos (ay J C J J J)];exact aJ (i:=a0.b.2.kind) (j:=((x.tag - 4)+1)) C J J J fun a C=>qe C F
        ·refine Qz1 7 J fun a w F C G=>?_;obtain⟨_,C,rfl⟩:=G.g C 20 J;exact an C J J J fun a C=>qe C F
        ·refine Qz1 21 J fun a w F C G=>?_;exact bu C J J fun a C=>qe C F
        subst bx;obtain⟨_,C,rfl⟩:=Dd C a4 22 J;refine aa (wp_ret (av (af (ret1 J C J ?_))));have F:=F.drop;refine⟨congrArg _ (congrArg _ ?_),F⟩;unfold wordS;rw [if_neg T,if_neg X,if_neg Z];rw [show refB x=true from a1];obtain rfl: a0=c5:=Option.some.inj (b6.symm.trans b5);have bk: a0.b.2=aj:=by rw [bl]
        rw [b8 a5,bk];have cl:=PB.tag_kind aj
        by_cases b4: x.tag=aj.tag
        ·rw [if_pos b4,decide_eq_true j0];rfl
        ·rw [if_neg b4,decide_eq_false j0];rfl
      ·have b2:=F;refine bD ba [FcV (.pointer (some ⟨V,2,none⟩)),FcV (.string x.s),FcV (.bool false),FcV (.bool false),FcV undef,FcV undef,FcV (.bool false),FcV (.bool false),FcV undef,FcV undef,FcV undef,FcV undef,FcV undef,FcV undef,FcV undef,FcV undef,FcV undef,FcV undef,FcV undef,FcV undef,FcV undef,FcV (.bool false),FcV (.bool false)] (N:=88) (E:= [(0,(pB r)),(3,(pB V)),(5,(iV (fdI (enB 0 S) x.n)))]) mixed J Mq F (C.pk J) (.c4 ?_ ?_ ?_ ?_ (.c4 ?_ ?_ ?_ ?_ (.c4 ?_ ?_ ?_ ?_ (.c4 ?_ ?_ ?_ ?_ (.c4 ?_ ?_ ?_ ?_ (.c2 ?_ ?_ (.cons ?_ (.nil)))))))) (fun a w c8 bz F C a4=>?_)
       ·refine Qz J fun a w F C G=>?_;exact ac (f:=2) (o2:=2) T35 T9 J J J J C J J fun a C=>qe C F
       ·refine Qz1 0 J fun a w F C G=>?_;exact ae (v:=(.string x.s)) T9 J C J (F.blkL 0 J) J J fun a C=>qe C F
       ·refine Qz1 1 J fun a w F C G=>?_;refine id (dG C J J J fun a C=>?_);rw [show (decide (x.s=⟨#[]⟩))=false from decide_eq_false a5] at C;exact qe C F
       ·refine Qz1 2 J fun a w F C G=>?_;exact aq C J J fun a C=>qe C F
       ·intro a w M I F C G;subst I;obtain⟨_,C,rfl⟩:=G.g C 3 J;rw [if_neg (ap J J C J J J)];intro d O;rfl
       ·intro a w M I F C G;subst I;obtain⟨_,C,rfl⟩:=G.g C 4 J;obtain⟨_,C,rfl⟩:=G.g C 3 J;rw [if_neg (ap J J C J J J)];intro d O;rfl
       ·refine Qz1 3 J fun a w F C G=>?_;obtain⟨_,C,rfl⟩:=G.g C 5 J;exact ak C J J J fun a C=>qe C F
       ·refine Qz1 6 J fun a w F C G=>?_;exact aq C J J fun a C=>qe C F
       ·intro a w M I F C G;subst I;obtain⟨_,C,rfl⟩:=G.g C 7 J;rw [if_neg (ap J J C J J J)];intro d O;rfl
       ·intro a w M I F C G;subst I;obtain⟨_,C,rfl⟩:=G.g C 8 J;obtain⟨_,C,rfl⟩:=G.g C 7 J;rw [if_neg (ap J J C J J J)];intro d O;rfl
       ·intro a w M I F C G;subst I;obtain⟨_,C,rfl⟩:=G.g C 9 J;obtain⟨_,C,rfl⟩:=G.g C 7 J;rw [if_neg (ap J J C J J J)];intro d O;rfl
       ·intro a w M I F C G;subst I;obtain⟨_,C,rfl⟩:=G.g C 10 J;obtain⟨_,C,rfl⟩:=G.g C 7 J;rw [if_neg (ap J J C J J J)];intro d O;rfl
       ·intro a w M I F C G;subst I;obtain⟨_,C,rfl⟩:=G.g C 7 J;rw [if_neg (ap J J C J J J)];intro d O;rfl
       ·intro a w M I F C G;subst I;obtain⟨_,C,rfl⟩:=G.g C 11 J;obtain⟨_,C,rfl⟩:=G.g C 12 J;obtain⟨_,C,rfl⟩:=G.g C 7 J;rw [if_neg (ap J J C J J J)];intro d O;rfl
       ·intro a w M I F C G;subst I;obtain⟨_,C,rfl⟩:=G.g C 13 J;obtain⟨_,C,rfl⟩:=G.g C 7 J;rw [if_neg (ap J J C J J J)];intro d O;rfl
       ·intro a w M I F C G;subst I;obtain⟨_,C,rfl⟩:=G.g C 14 J;obtain⟨_,C,rfl⟩:=G.g C 7 J;rw [if_neg (ap J J C J J J)];intro d O;rfl
       ·intro a w M I F C G;subst I;obtain⟨_,C,rfl⟩:=G.g C 7 J;rw [if_neg (ap J J C J J J)];intro d O;rfl
       ·intro a w M I F C G;subst I;obtain⟨_,C,rfl⟩:=G.g C 16 J;obtain⟨_,C,rfl⟩:=G.g C 7 J;rw [if_neg (ap J J C J J J)];intro d O;rfl
       ·intro a w M I F C G;subst I;obtain⟨_,C,rfl⟩:=G.g C 17 J;obtain⟨_,C,rfl⟩:=G.g C 7 J;rw [if_neg (ap J J C J J J)];intro d O;rfl
       ·intro a w M I F C G;subst I;obtain⟨_,C,rfl⟩:=G.g C 18 J;obtain⟨_,C,rfl⟩:=G.g C 7 J;rw [if_neg (ap J J C J J J)];intro d O;rfl
       ·intro a w M I F C G;subst I;obtain⟨_,C,rfl⟩:=G.g C 15 J;obtain⟨_,C,rfl⟩:=G.g C 19 J;obtain⟨_,C,rfl⟩:=G.g C 7 J;rw [if_neg (ap J J C J J J)];intro d O;rfl
       ·refine Qz1 7 J fun a w F C G=>?_;obtain⟨_,C,rfl⟩:=G.g C 20 J;exact ak C J J J fun a C=>qe C F
       ·refine Qz1 21 J fun a w F C G=>?_;exact bu C J J fun a C=>qe C F
       subst bz;obtain⟨_,C,rfl⟩:=Dd C a4 22 J;refine aa (wp_ret (av (af (ret1 J C J ?_))));have F:=F.drop;refine⟨congrArg _ (congrArg _ ?_),F⟩;unfold wordS;rw [if_neg T,if_neg X,if_neg Z];rw [show refB x=true from a1];rw [show atS S x=none from ck (.inr (.inr (.inl a5)))];rfl
     ·refine ag C J (wp_skip (ar (aa (wp_seq (ab (Ls J C fun a C=>?_))))));refine wpList_nil (aa (wp_ret (ret1 J C J ?_)));have F:=F.drop;refine⟨congrArg _ (congrArg _ ?_),F⟩;unfold wordS;rw [if_neg T,if_neg X,if_neg Z];rw [show refB x=false by simpa using a1];rfl
theorem all_out {S: PS} {ws: List Wd} {k: Nat} {x: Wd} (hx: ws[k]? =some x) (h: wordS S x=false): allS S ws=false:=by
 cases h2: allS S ws with
 | false=>rfl
 | true=>rw [allS_at h2 hx] at h;cases h
theorem eK {S: PS} {ws: List Wd} {k: Nat} {x: Wd} (hx: ws[k]? =some x) (h: wordS S x=true) (ha: allS S (ws.take k)=true): allS S (ws.take (k+1))=true:=by
 unfold allS at ha ⊢;rw [List.take_add_one,hx,List.all_append,ha];simp [h]
theorem c_rall {w0: World} {H: PHeap} {r: Nat} {S: PS} {es eb: Ent} (hI: Inv w0 H [es,eb]) (hK: RK r S H es eb) (hSl: S.length<=65536) {A': Option Addr} {c': Nat} {ws: List Wd} (hr: RowG 4 Wd.cells H A' c' ws) (hz: ∀ x ∈ ws,x.s.size<=2000000): Calls prog 117 #[(pB r),(.slice A' ws.length c')] w0 (fun e w'=>e=.returned (.bool (allS S ws))/\Step w0 H [es,eb] w' H [es,eb]):=by
 obtain⟨xs,A,c,rfl,T,Z,V⟩:=hK;have F:=Step.refl hI;have ad:=bI V;have ae:=bn S 0;have ac:=Row.cap T;have ah:=hr.2.1;refine enter [(pB r),(.slice A' ws.length c')] func117 J ntmps117 J fun a C=>?_;refine wp_seq (ab (Ls J C fun a C=>?_));refine wpList_nil (aa (wp_seq (wp_seq (ab (Ls J C fun a C=>?_)))));refine wpList_nil (aa (wp_block (aL (fun a5 a w=> ∃(k: Nat),a5=ws.length - k/\Has [] a 19 [(0,(pB r)),(1,(.slice A' ws.length c')),(5,(iV ((k: Nat): Int)))]/\Step w0 H [(some r,.cells #[.int .i64 (S.length: Int),.slice A xs.length c] 133 (0,0)),eb] w H [(some r,(.cells #[(iV ((S.length: Nat): Int)),(.slice A xs.length c)] 133 (0,0))),eb]/\(k<=ws.length)/\(allS S (ws.take k)=true)) _ ⟨0,rfl,C.pk J,F,j0,rfl⟩ ?_)));intro ak a w a3;obtain⟨k,aj,C,F,hk,M⟩:=a3;refine wp_seq (wp_seq (ab (Lm J C fun a C=>?_)));refine Lm J C fun a C=>?_;refine lin J (aI T37.und C J J fun a C=>?_);refine lin J (aQ (i:=((k: Nat): Int)) (j:=((ws.length: Nat): Int)) C J J J fun a C=>?_);refine wpList_nil (aa (ai (t:=9) C J (fun h2 C=>?_) (fun h2 C=>?_)))
 ·refine ao C J (wp_skip (aa (wp_seq (wp_block (wp_seq (ab (Lm J C fun a C=>?_)))))));refine Lm J C fun a C=>?_;refine Lm J C fun a C=>?_;obtain⟨G,X,a6,a8,a7,a9,O,Y,a0,a2⟩:=hr.get (j:=k) j4;refine lin J (az (b:=X) (o:=a6) (j:=k) T37.und T35 Y C J J j0 j0 J fun a C=>?_);refine lin J (am (vs:= [(iV G.tag),(iV G.n),(.string G.s),(.bool G.one)]) T35 J C J (F.blkH a0) J a2 J fun a C=>?_);have a4:=dW (x:=G) (F.tail []) ⟨_,_,_,rfl,T,Z,V⟩ hSl (hz _ (List.mem_of_getElem? O));refine lin J (Co func125 C J (a4) ?_);rintro e w ⟨rfl,a1⟩;refine⟨_,rfl,fun a C=>?_⟩;have F:=F.frameR [] a1;refine lin J (aK C J J fun a C=>?_);refine wpList_nil (aa (au (t:=18) C J (fun I C=>?_) (fun I C=>?_)))
  ·refine ao C J (wp_seq (ab (Ls J C fun a C=>?_)));refine wpList_nil (aa (wp_ret (av (af (af (av (af (ret1 J C J ?_))))))));rw [show allS S ws=false from all_out O (by simpa using I)];exact⟨rfl,F⟩
  ·refine ag C J (wp_skip (ar (aa (ab (Lm J C fun a C=>?_)))));refine lin J (aF (i:=((k: Nat): Int)) (j:=1) C J J J j0 fun a C=>?_);refine Ls J C fun a C=>?_;refine wpList_nil (aa (?_));exact⟨ws.length - (k+1),by omega,(k+1),rfl,C.pk J,F,j0,(eK O (by simpa using I) M)⟩
 ·refine ag C J (wp_exit (aw (aw (aH (aa (wp_seq (ab (Ls J C fun a C=>?_))))))));refine wpList_nil (aa (wp_ret (ret1 J C J ?_)));obtain rfl: k=ws.length:=by omega
  rw [show allS S ws=true from by rw [List.take_length] at M;exact M];exact⟨rfl,F⟩
theorem c_rUsed {w0: World} {H: PHeap} {r: Nat} {S: PS} {es eb: Ent} (hI: Inv w0 H [es,eb]) (hK: RK r S H es eb) (hSl: S.length<=65536) (hwl: ∀(j: Nat) (b: PB),S[j]? =some (some b)->j+b.size<=S.length/\b.words.length<=64): Calls prog 42 #[(pB r)] w0 (fun e w'=>e=.returned (iV ((szB (enB 0 S): Nat): Int))/\Step w0 H [es,eb] w' H [es,eb]):=by
 obtain⟨xs,A,c,rfl,V,a0,O⟩:=hK;have G:=Step.refl hI;have a9:=bI O;have ad:=bn S 0;have a8:=Row.cap V;refine enter [(pB r)] func42 J ntmps42 J fun a C=>?_;refine wp_seq (ab (Ls J C fun a C=>?_));refine wpList_nil (aa (wp_seq (ab (Ls J C fun a C=>?_))));refine wpList_nil (aa (wp_seq (wp_seq (ab (Ls J C fun a C=>?_)))));refine wpList_nil (aa (wp_block (aL (fun a6 a w=> ∃(k: Nat),∃(I: Nat),a6=xs.length - k/\Has [] a 25 [(0,(pB r)),(3,(iV ((I: Nat): Int))),(4,(iV ((k: Nat): Int)))]/\Step w0 H [(some r,.cells #[.int .i64 (S.length: Int),.slice A xs.length c] 133 (0,0)),eb] w H [(some r,(.cells #[(iV ((S.length: Nat): Int)),(.slice A xs.length c)] 133 (0,0))),eb]/\(k<=xs.length)/\(I=szB ((xs.map RbV.b).take k))/\(I<=65536 * k)) _ ⟨0,0,rfl,C.pk J,G,j0,rfl,j0⟩ ?_)));intro an a w a3;obtain⟨k,I,af,C,G,hk,X,ah⟩:=a3;refine wp_seq (wp_seq (ab (Lm J C fun a C=>?_)));refine Lm J C fun a C=>?_;refine lin J (aE C J J fun a C=>?_);refine lin J (ac (f:=1) (o2:=1) T133 T131 J J J J C J J fun a C=>?_);refine lin J (ae (v:=(.slice A xs.length c)) T131 J C J (G.blkL 0 J) J J fun a C=>?_);refine lin J (aI T131.und C J J fun a C=>?_);refine lin J (aQ (i:=((k: Nat): Int)) (j:=((xs.length: Nat): Int)) C J J J fun a C=>?_);refine wpList_nil (aa (ai (t:=11) C J (fun h2 C=>?_) (fun h2 C=>?_)))
 ·refine ao C J (wp_skip (aa (wp_seq (wp_block (ab (Lm J C fun a C=>?_))))));refine Lm J C fun a C=>?_;refine lin J (aE C J J fun a C=>?_);refine lin J (ac (f:=1) (o2:=1) T133 T131 J J J J C J J fun a C=>?_);refine lin J (ae (v:=(.slice A xs.length c)) T131 J C J (G.blkL 0 J) J J fun a C=>?_);refine Lm J C fun a C=>?_;obtain⟨F,M,a7,Y,T,a5,a2,a1⟩:=Row.getG RbV.len j2 V (j:=k) j0;have Z:(A: Option Addr)=some ⟨M,0,none⟩:=by injection a5
  obtain⟨ak,aj⟩:=AllRv.at_ a0 T;have al:=hwl _ _ (fE (gm O T));refine lin J (az (b:=M) (o:=0) (j:=k) T131.und T140 Z C J J j0 j0 J fun a C=>?_);refine lin J (am (vs:= [(iV ((F.b.1: Nat): Int)),(iV F.b.2.kind),(.string F.b.2.nm),(.slice F.A F.b.2.words.length F.c),(.bool F.b.2.bound),(.slice F.A2 F.b.2.hooks.length F.c2)]) T140 J C J (G.blkL 1 (b:=M) (o:=.cells Y 140 (0,0)) (by rw [<- a2];rfl)) J a1 J fun a C=>?_);have a4:=fC (x:=F) G.inv.nil j0;refine lin J (Cs func98 C J (a4) G fun a w C G=>?_);refine lin J (aF (i:=((I: Nat): Int)) (j:=((F.b.2.size: Nat): Int)) C J J J j0 fun a C=>?_);refine Ls J C fun a C=>?_;refine wpList_nil (ar (aa (ab (Lm J C fun a C=>?_))));refine lin J (aF (i:=((k: Nat): Int)) (j:=1) C J J J j0 fun a C=>?_);refine Ls J C fun a C=>?_;refine wpList_nil (aa (?_));exact⟨xs.length - (k+1),by omega,(k+1),(I+F.b.2.size),rfl,C.pk J,G,j0,(by rw [X,szB_take (by rw [List.getElem?_map,T];rfl)]),j0⟩
 ·refine ag C J (wp_exit (aw (aw (aH (aa (wp_seq (ab (Lm J C fun a C=>?_))))))));refine Ls J C fun a C=>?_;refine wpList_nil (aa (wp_ret (ret1 J C J ?_)));obtain rfl: k=xs.length:=by omega
  rw [show (szB (enB 0 S): Nat)=I from by rw [X,<- O,List.take_of_length_le (by rw [List.length_map];exact Nat.le_refl _)]];exact⟨rfl,G⟩
theorem drop_map {xs: List RbV} {k: Nat} {x: RbV} (hx: xs[k]? =some x):(xs.drop k).map RbV.b=x.b::(xs.drop (k+1)).map RbV.b:=by
 have h1:=List.getElem?_eq_some_iff.1 hx;rw [List.drop_eq_getElem_cons h1.1,h1.2];rfl
theorem c_rroom {w0: World} {H: PHeap} {r: Nat} {S: PS} {es eb: Ent} (hI: Inv w0 H [es,eb]) (hK: RK r S H es eb) (hSl: S.length<=65536) (hwl: ∀(j: Nat) (b: PB),S[j]? =some (some b)->j+b.size<=S.length/\b.words.length<=64) {n_: Nat} (hn: n_<=1000): Calls prog 144 #[(pB r),(iV ((n_: Nat): Int))] w0 (fun e w'=>e=.returned (iV (rmB n_ S.length 0 (enB 0 S)))/\Step w0 H [es,eb] w' H [es,eb]):=by
 obtain⟨xs,A,c,rfl,Y,a0,a1⟩:=hK;have F:=Step.refl hI;have bk:=bI a1;have bl:=bn S 0;have bj:=Row.cap Y;refine enter [(pB r),(iV ((n_: Nat): Int))] func144 J ntmps144 J fun a C=>?_;refine wp_seq (ab (Ls J C fun a C=>?_));refine wpList_nil (aa (wp_seq (ab (Ls J C fun a C=>?_))));refine wpList_nil (aa (wp_seq (wp_seq (ab (Ls J C fun a C=>?_)))));refine wpList_nil (aa (wp_block (aL (fun b6 a w=> ∃(k: Nat),∃(M: Nat),b6=xs.length - k/\Has [] a 55 [(0,(pB r)),(1,(iV ((n_: Nat): Int))),(5,(iV ((M: Nat): Int))),(6,(iV ((k: Nat): Int)))]/\Step w0 H [(some r,.cells #[.int .i64 (S.length: Int),.slice A xs.length c] 133 (0,0)),eb] w H [(some r,(.cells #[(iV ((S.length: Nat): Int)),(.slice A xs.length c)] 133 (0,0))),eb]/\(k<=xs.length)/\(rmB n_ S.length M ((xs.drop k).map RbV.b)=rmB n_ S.length 0 (enB 0 S))/\(M<=65536)) _ ⟨0,0,rfl,C.pk J,F,j0,(by rw [<- a1];rfl),j0⟩ ?_)));intro bx a w ay;obtain⟨k,M,bm,C,F,hk,O,bi⟩:=ay;refine wp_seq (wp_seq (ab (Lm J C fun a C=>?_)));refine Lm J C fun a C=>?_;refine lin J (aE C J J fun a C=>?_);refine lin J (ac (f:=1) (o2:=1) T133 T131 J J J J C J J fun a C=>?_);refine lin J (ae (v:=(.slice A xs.length c)) T131 J C J (F.blkL 0 J) J J fun a C=>?_);refine lin J (aI T131.und C J J fun a C=>?_);refine lin J (aQ (i:=((k: Nat): Int)) (j:=((xs.length: Nat): Int)) C J J J fun a C=>?_);refine wpList_nil (aa (ai (t:=13) C J (fun h2 C=>?_) (fun h2 C=>?_)))
 ·refine ao C J (wp_skip (aa (wp_seq (wp_block (wp_seq (wp_seq (ab (Lm J C fun a C=>?_))))))));refine lin J (aE C J J fun a C=>?_);refine lin J (ac (f:=1) (o2:=1) T133 T131 J J J J C J J fun a C=>?_);refine lin J (ae (v:=(.slice A xs.length c)) T131 J C J (F.blkL 0 J) J J fun a C=>?_);refine Lm J C fun a C=>?_;obtain⟨G,Z,bc,a4,T,b3,ap,aj⟩:=Row.getG RbV.len j2 Y (j:=k) j0;have a9:(A: Option Addr)=some ⟨Z,0,none⟩:=by injection b3
  obtain⟨br,bo⟩:=AllRv.at_ a0 T;have bw:=hwl _ _ (fE (gm a1 T));refine lin J (az (b:=Z) (o:=0) (j:=k) T131.und T140 a9 C J J j0 j0 J fun a C=>?_);refine lin J (ac (f:=0) (o2:=(0+k * 6+0)) T140 T3 J J J J C J J fun a C=>?_);refine lin J (ae (v:=(iV ((G.b.1: Nat): Int))) T3 J C J (F.blkL 1 (b:=Z) (o:=.cells a4 140 (0,0)) (by rw [<- ap];rfl)) (aj 0 _ J) J fun a C=>?_);refine Lm J C fun a C=>?_;refine lin J (cK (i:=((G.b.1: Nat): Int)) (j:=((M: Nat): Int)) C J J J j0 fun a C=>?_);refine Lm J C fun a C=>?_;refine lin J (co (i:=(((G.b.1: Nat): Int) - ((M: Nat): Int))) (j:=((n_: Nat): Int)) C J J J fun a C=>?_);refine wpList_nil (aa (ai (t:=27) C J (fun a7 C=>?_) (fun a7 C=>?_)))
  ·refine ao C J (wp_seq (ab (Lm J C fun a C=>?_)));refine Ls J C fun a C=>?_;refine wpList_nil (aa (wp_ret (af (av (af (af (av (af (ret1 J C J ?_)))))))));rw [drop_map T,rmB,if_pos j0] at O;rw [<- O];exact⟨rfl,F⟩
  ·refine ag C J (wp_skip (aa (?_)));have bh:=F;obtain⟨b7,V,bf,a5,a2,b4,au,ak⟩:=Row.getG RbV.len j2 Y (j:=k) j0;have ad:(A: Option Addr)=some ⟨V,0,none⟩:=by injection b4
   obtain⟨bt,bp⟩:=AllRv.at_ a0 a2;obtain rfl: G=b7:=Option.some.inj (T.symm.trans a2);obtain⟨b8,X,bg,a6,a3,b5,ax,al⟩:=Row.getG RbV.len j2 Y (j:=k) j0;have ah:(A: Option Addr)=some ⟨X,0,none⟩:=by injection b5
   obtain⟨bv,bq⟩:=AllRv.at_ a0 a3;obtain rfl: G=b8:=Option.some.inj (T.symm.trans a3);refine bD ba [FcV (pB r),FcV (pB r),FcV (.pointer (some ⟨r,1,none⟩)),FcV (.slice A xs.length c),FcV (iV ((k: Nat): Int)),FcV (.pointer (some ⟨V,0+k * 6,none⟩)),FcV (.pointer (some ⟨V,(0+k * 6+0),none⟩)),FcV (iV ((G.b.1: Nat): Int)),FcV (pB r),FcV (pB r),FcV (.pointer (some ⟨r,1,none⟩)),FcV (.slice A xs.length c),FcV (iV ((k: Nat): Int)),FcV (.pointer (some ⟨X,0+k * 6,none⟩)),FcV (.agg #[(iV ((G.b.1: Nat): Int)),(iV G.b.2.kind),(.string G.b.2.nm),(.slice G.A G.b.2.words.length G.c),(.bool G.b.2.bound),(.slice G.A2 G.b.2.hooks.length G.c2)]),FcV (iV ((G.b.2.size: Nat): Int)),FcV (iV (((G.b.1: Nat): Int)+((G.b.2.size: Nat): Int))),FcV (iV (((G.b.1: Nat): Int)+((G.b.2.size: Nat): Int)))] (N:=55) (E:= [(0,(pB r)),(1,(iV ((n_: Nat): Int))),(6,(iV ((k: Nat): Int)))]) mixed J Mq F (C.pk J) (.c4 ?_ ?_ ?_ ?_ (.c4 ?_ ?_ ?_ ?_ (.c4 ?_ ?_ ?_ ?_ (.c4 ?_ ?_ ?_ ?_ (.c2 ?_ ?_ (.nil)))))) (fun a w b9 b2 F C an=>?_)
   ·refine Qz J fun a w F C I=>?_;exact aq C J J fun a C=>qe C F
   ·refine Qz1 0 J fun a w F C I=>?_;exact aE C J J fun a C=>qe C F
   ·refine Qz1 1 J fun a w F C I=>?_;exact ac (f:=1) (o2:=1) T133 T131 J J J J C J J fun a C=>qe C F
   ·refine Qz1 2 J fun a w F C I=>?_;exact ae (v:=(.slice A xs.length c)) T131 J C J (F.blkL 0 J) J J fun a C=>qe C F
   ·refine Qz J fun a w F C I=>?_;exact aq C J J fun a C=>qe C F
   ·refine Qz1 3 J fun a w F C I=>?_;obtain⟨_,C,rfl⟩:=I.g C 4 J;exact az (b:=V) (o:=0) (j:=k) T131.und T140 ad C J J j0 j0 J fun a C=>qe C F
   ·refine Qz1 5 J fun a w F C I=>?_;exact ac (f:=0) (o2:=(0+k * 6+0)) T140 T3 J J J J C J J fun a C=>qe C F
   ·refine Qz1 6 J fun a w F C I=>?_;exact ae (v:=(iV ((G.b.1: Nat): Int))) T3 J C J (F.blkL 1 (b:=V) (o:=.cells a5 140 (0,0)) (by rw [<- au];rfl)) (ak 0 _ J) J fun a C=>qe C F
   ·refine Qz J fun a w F C I=>?_;exact aq C J J fun a C=>qe C F
   ·refine Qz1 8 J fun a w F C I=>?_;exact aE C J J fun a C=>qe C F
   ·refine Qz1 9 J fun a w F C I=>?_;exact ac (f:=1) (o2:=1) T133 T131 J J J J C J J fun a C=>qe C F
   ·refine Qz1 10 J fun a w F C I=>?_;exact ae (v:=(.slice A xs.length c)) T131 J C J (F.blkL 0 J) J J fun a C=>qe C F
   ·refine Qz J fun a w F C I=>?_;exact aq C J J fun a C=>qe C F
   ·refine Qz1 11 J fun a w F C I=>?_;obtain⟨_,C,rfl⟩:=I.g C 12 J;exact az (b:=X) (o:=0) (j:=k) T131.und T140 ah C J J j0 j0 J fun a C=>qe C F
   ·refine Qz1 13 J fun a w F C I=>?_;exact am (vs:= [(iV ((G.b.1: Nat): Int)),(iV G.b.2.kind),(.string G.b.2.nm),(.slice G.A G.b.2.words.length G.c),(.bool G.b.2.bound),(.slice G.A2 G.b.2.hooks.length G.c2)]) T140 J C J (F.blkL 1 (b:=X) (o:=.cells a6 140 (0,0)) (by rw [<- ax];rfl)) J al J fun a C=>qe C F
   ·refine Qz1 14 J fun a w F C I=>?_;have b1:=fC (x:=G) F.inv.nil j0;exact Cs func98 C J (b1) F fun a w C F=>qe C F
   ·refine Qz1 7 J fun a w F C I=>?_;obtain⟨_,C,rfl⟩:=I.g C 15 J;exact aF (i:=((G.b.1: Nat): Int)) (j:=((G.b.2.size: Nat): Int)) C J J J j0 fun a C=>qe C F
   ·refine Qz1 16 J fun a w F C I=>?_;exact bu C J J fun a C=>qe C F
   subst b2;obtain⟨_,C,rfl⟩:=Dd C an 17 J;refine ar (aa (ab (Lm J C fun a C=>?_)));refine lin J (aF (i:=((k: Nat): Int)) (j:=1) C J J J j0 fun a C=>?_);refine Ls J C fun a C=>?_;refine wpList_nil (aa (?_));exact⟨xs.length - (k+1),by omega,(k+1),(G.b.1+G.b.2.size),rfl,C.pk J,F,j0,(by rw [<- O,drop_map T,rmB,if_neg j0]),j0⟩
 ·refine ag C J (wp_exit (aw (aw (aH (aa (wp_seq (wp_seq (ab (Lm J C fun a C=>?_)))))))));refine lin J (aE C J J fun a C=>?_);refine lin J (ac (f:=0) (o2:=0) T133 T3 J J J J C J J fun a C=>?_);refine lin J (ae (v:=(iV ((S.length: Nat): Int))) T3 J C J (F.blkL 0 J) J J fun a C=>?_);refine Lm J C fun a C=>?_;refine lin J (cK (i:=((S.length: Nat): Int)) (j:=((M: Nat): Int)) C J J J j0 fun a C=>?_);refine Lm J C fun a C=>?_;refine lin J (co (i:=(((S.length: Nat): Int) - ((M: Nat): Int))) (j:=((n_: Nat): Int)) C J J J fun a C=>?_);refine wpList_nil (aa (ai (t:=53) C J (fun a8 C=>?_) (fun a8 C=>?_)))
  ·refine ao C J (wp_seq (ab (Lm J C fun a C=>?_)));refine Ls J C fun a C=>?_;refine wpList_nil (aa (wp_ret (af (ret1 J C J ?_))));obtain rfl: k=xs.length:=by omega
   rw [List.drop_of_length_le j0,List.map_nil,rmB,if_pos j0] at O;rw [<- O];exact⟨rfl,F⟩
  ·refine ag C J (wp_skip (aa (wp_seq (ab (Ls J C fun a C=>?_)))));refine wpList_nil (aa (wp_ret (ret1 J C J ?_)));obtain rfl: k=xs.length:=by omega
   rw [List.drop_of_length_le j0,List.map_nil,rmB,if_neg j0] at O;rw [<- O];exact⟨rfl,F⟩
end Go.Vk.Tryz
namespace Go.Vk
open Go.RowKit
def rmS (S: PS) (n: Nat): Int:=rmB n S.length 0 (enB 0 S)
def addW (S: PS) (b: PB): Wd × Bool:=if rmS S b.size < 0 then (Wd.zero,false) else (⟨b.tag,rmS S b.size,⟨#[]⟩,true⟩,true)
def addS (S: PS) (b: PB): PS:=if rmS S b.size < 0 then S else S.set (rmS S b.size).toNat (some b)
section
variable {ys xs: List RbV} {L: List RB} {k p: Nat} {x: RbV}
theorem map_take (hx: xs[k]? =some x):((xs.take k).map RbV.b)=(xs.map RbV.b).take k/\(xs.map RbV.b)[k]? =some x.b:=⟨by rw [List.map_take],by rw [List.getElem?_map,hx];rfl⟩
theorem lo_on (h: ys.map RbV.b=loB p ((xs.take k).map RbV.b)) (hx: xs[k]? =some x) (hl: x.b.1 < p):(ys++ [x]).map RbV.b=loB p ((xs.take (k+1)).map RbV.b):=by
 obtain⟨h1,h2⟩:=map_take hx;rw [List.map_append,h,h1,List.map_take,loB_take h2,if_pos hl];rfl
theorem lo_off (h: ys.map RbV.b=loB p ((xs.take k).map RbV.b)) (hx: xs[k]? =some x) (hl: ¬ x.b.1 < p): ys.map RbV.b=loB p ((xs.take (k+1)).map RbV.b):=by
 obtain⟨h1,h2⟩:=map_take hx;rw [h,h1,List.map_take,loB_take h2,if_neg hl]
theorem hi_on (h: ys.map RbV.b=L++hiB p ((xs.take k).map RbV.b)) (hx: xs[k]? =some x) (hl: p < x.b.1):(ys++ [x]).map RbV.b=L++hiB p ((xs.take (k+1)).map RbV.b):=by
 obtain⟨h1,h2⟩:=map_take hx;rw [List.map_append,h,h1,List.map_take,hiB_take h2,if_pos hl,List.append_assoc];rfl
theorem hi_off (h: ys.map RbV.b=L++hiB p ((xs.take k).map RbV.b)) (hx: xs[k]? =some x) (hl: ¬ p < x.b.1): ys.map RbV.b=L++hiB p ((xs.take (k+1)).map RbV.b):=by
 obtain⟨h1,h2⟩:=map_take hx;rw [h,h1,List.map_take,hiB_take h2,if_neg hl]
end
theorem addW_on {S: PS} {b: PB} (h:(addW S b).2=true): refW b.tag (rmS S b.size)=((addW S b).1,0):=by
 unfold addW at h ⊢;unfold refW
 split at h
 ·cases h
 ·rename_i h1
  rw [if_neg h1,if_neg h1]
theorem addW_off {S: PS} {b: PB} (h:(addW S b).2=false): refW b.tag (rmS S b.size)=(Wd.zero,210):=by
 unfold addW at h;unfold refW
 split at h
 ·rename_i h1
  rw [if_pos h1]
 ·cases h
theorem HS.Ok.wl {h: HS} (hO: h.Ok): ∀(j: Nat) (b: PB),h.S[j]? =some (some b)->j+b.size<=h.S.length/\b.words.length<=64:=fun j b hj=>⟨(hO.blk j b hj).2,(hO.blk j b hj).1.words⟩
theorem HS.Ok.fr {h: HS} (hO: h.Ok) {n: Nat} (hn: 1<=n): ∀ p: Nat,rmS h.S n=(p: Int)->h.S[p]? =some none:=fun p he=>by
 have h1: rmS h.S n=findS h.tk n:=rmB_eq hO hn;exact(findS_none hO hn (by rw [<- h1];exact he)).1
theorem PB.kind_bd (b: PB): 1<=b.kind/\b.kind<=3:=by cases b <;> simp [PB.kind]
theorem PB.size_pos (b: PB): 1<=b.size:=by cases b <;> simp [PB.size]
theorem fk {h: HS} (hO: h.Ok) {b: PB}:(h.place b).1.S=addS h.S b/\(h.place b).2=rmS h.S b.size:=by
 have h1: rmS h.S b.size=findS h.tk b.size:=rmB_eq hO b.size_pos;unfold addS;rw [h1,bX];refine⟨?_,rfl⟩;unfold HS.place;dsimp only
 split <;> rfl
end Go.Vk
namespace Go.Vk.Tryz
open Go.RowKit
set_option maxHeartbeats 2000000 in
theorem c_radd {w0: World} {H: PHeap} {r: Nat} {S: PS} {es eb: Ent} (hI: Inv w0 H [es,eb]) (hK: RK r S H es eb) (hSl: S.length<=65536) {x: RbV} (hxv: VOk H x) (hxs: x.b.2.words.length<=64) (hwl: ∀(j: Nat) (b: PB),S[j]? =some (some b)->j+b.size<=S.length/\b.words.length<=64) (hfr: ∀ p: Nat,rmS S x.b.2.size=(p: Int)->S[p]? =some none): Calls prog 134 #[(pB r),(.agg #[(iV ((x.b.1: Nat): Int)),(iV x.b.2.kind),(.string x.b.2.nm),(.slice x.A x.b.2.words.length x.c),(.bool x.b.2.bound),(.slice x.A2 x.b.2.hooks.length x.c2)])] w0 (fun e w'=> ∃ H' es' eb',e=.returned (.tuple #[wv (addW S x.b.2).1,.bool (addW S x.b.2).2])/\RK r (addS S x.b.2) H' es' eb'/\Step w0 H [es,eb] w' H' [es',eb']):=by
 obtain⟨xs,A,c,rfl,a1,X,aq⟩:=hK;have F:=Step.refl hI;have ds:=bI aq;have dt:=bn S 0;have dp:=Row.cap a1;obtain⟨ax,av⟩:=hxv;have e0: x.b.2.size<=65:=by have Y:=ey x;split at Y <;> omega
 have dr:=PB.kind_bd x.b.2;refine enter [(pB r),(.agg #[(iV ((x.b.1: Nat): Int)),(iV x.b.2.kind),(.string x.b.2.nm),(.slice x.A x.b.2.words.length x.c),(.bool x.b.2.bound),(.slice x.A2 x.b.2.hooks.length x.c2)])] func134 J ntmps134 J fun a C=>?_;refine wp_seq (ab (lin J (aG (cs:= #[(iV ((x.b.1: Nat): Int)),(iV x.b.2.kind),(.string x.b.2.nm),(.slice x.A x.b.2.words.length x.c),(.bool x.b.2.bound),(.slice x.A2 x.b.2.hooks.length x.c2)]) F C J J J fun a2 a w F C=>?_)));refine lin J (aB (cs:= #[(iV 0),(iV 0),(.string (⟨#[]⟩)),(.bool false)]) T35 F C J J fun a3 a w F C=>?_);refine Ls J C fun a C=>?_;refine wpList_nil (aa (wp_seq (ab (Lm J C fun a C=>?_))));refine lin J (am (vs:= [(iV ((x.b.1: Nat): Int)),(iV x.b.2.kind),(.string x.b.2.nm),(.slice x.A x.b.2.words.length x.c),(.bool x.b.2.bound),(.slice x.A2 x.b.2.hooks.length x.c2)]) T140 J C J (F.blkL 1 J) J (aj J) J fun a C=>?_);have d9:=fC (x:=x) F.inv.nil j0;refine lin J (Cs func98 C J (d9) F fun a w C F=>?_);have da:=c_rroom (n_:=x.b.2.size) (F.tail [(some a3,(.cells #[(iV 0),(iV 0),(.string (⟨#[]⟩)),(.bool false)] 35 (0,0))),(some a2,(.cells #[(iV ((x.b.1: Nat): Int)),(iV x.b.2.kind),(.string x.b.2.nm),(.slice x.A x.b.2.words.length x.c),(.bool x.b.2.bound),(.slice x.A2 x.b.2.hooks.length x.c2)] 140 (0,0)))]) ⟨_,_,_,rfl,a1,X,aq⟩ hSl hwl (by have Y:=ey x;omega);refine lin J (Co func144 C J (da) ?_);rintro e w ⟨rfl,d0⟩;refine⟨_,rfl,fun a C=>?_⟩;have F:=F.frameR [(some a3,(.cells #[(iV 0),(iV 0),(.string (⟨#[]⟩)),(.bool false)] 35 (0,0))),(some a2,(.cells #[(iV ((x.b.1: Nat): Int)),(iV x.b.2.kind),(.string x.b.2.nm),(.slice x.A x.b.2.words.length x.c),(.bool x.b.2.bound),(.slice x.A2 x.b.2.hooks.length x.c2)] 140 (0,0)))] d0;refine Ls J C fun a C=>?_;refine wpList_nil (aa (wp_seq (wp_seq (ab (Lm J C fun a C=>?_)))));refine lin J (aQ (i:=(rmB x.b.2.size (List.length S) 0 (enB 0 S))) (j:=0) C J J J fun a C=>?_);refine wpList_nil (aa (ai (t:=15) C J (fun br C=>?_) (fun br C=>?_)))
 ·refine ao C J (wp_seq (ab (lin J (aA (vs:= []) (cells:= [(iV 0),(iV 0),(.string (⟨#[]⟩)),(.bool false)]) T35 PL35 C (C.evp J) J J fun a C=>?_))));refine lin J (al (cs':= #[(iV 0),(iV 0),(.string (⟨#[]⟩)),(.bool false)]) T35 F (i:=0) J C J J J J J J fun a w F C=>?_);refine Ls J C fun a C=>?_;refine wpList_nil (aa (wp_ret (af (retA1 (i:=0) (cs:= #[(iV 0),(iV 0),(.string (⟨#[]⟩)),(.bool false)]) J T35 J F J C J J J ?_))));have F:=F.fd [0,0] J;have au: rmS S x.b.2.size < 0:=br;unfold addW addS;rw [if_pos au,if_pos au];exact⟨_,_,_,rfl,⟨_,_,_,rfl,a1,X,aq⟩,F⟩
 ·refine ag C J (wp_skip (aa (wp_seq ?_)));obtain⟨M,c7⟩: ∃ p: Nat,rmB x.b.2.size S.length 0 (enB 0 S)=(p: Int):=⟨(rmB x.b.2.size S.length 0 (enB 0 S)).toNat,by omega⟩;rw [c7] at C;refine ab (Lm J C fun a C=>?_);refine lin J (ac (f:=0) (o2:=0) T140 T3 J J J J C J J fun a C=>?_);refine lin J (al (cs':= #[(iV ((M: Nat): Int)),(iV x.b.2.kind),(.string x.b.2.nm),(.slice x.A x.b.2.words.length x.c),(.bool x.b.2.bound),(.slice x.A2 x.b.2.hooks.length x.c2)]) T3 F (i:=1) J C J J J J J J fun a w F C=>?_);refine wpList_nil (aa (wp_seq (ab (lin J (a6 (vs:= []) (cells:= []) T131.und T140 F C (C.evp J) J J J J fun bm a w F C=>?_)))));refine Ls J C fun a C=>?_;refine wpList_nil (aa (wp_seq (wp_seq (ab (Ls J C fun a C=>?_)))));refine wpList_nil (aa (wp_block (aL (fun c3 a w=> ∃(a5: PHeap),∃(k: Nat),∃(O: List RbV),∃(b2: Ent),∃(ay: Option Addr),∃(b1: Nat),Le H a5/\c3=xs.length - k/\Has [] a 92 [(0,(pB r)),(3,(pB a2)),(4,(pB a3)),(6,(iV ((M: Nat): Int))),(7,(.slice ay O.length b1)),(8,(iV ((k: Nat): Int)))]/\Step w0 H [(some r,.cells #[.int .i64 (S.length: Int),.slice A xs.length c] 133 (0,0)),eb] w a5 [b2,(some a3,(.cells #[(iV 0),(iV 0),(.string (⟨#[]⟩)),(.bool false)] 35 (0,0))),(some a2,(.cells #[(iV ((M: Nat): Int)),(iV x.b.2.kind),(.string x.b.2.nm),(.slice x.A x.b.2.words.length x.c),(.bool x.b.2.bound),(.slice x.A2 x.b.2.hooks.length x.c2)] 140 (0,0))),(some r,(.cells #[(iV ((S.length: Nat): Int)),(.slice A xs.length c)] 133 (0,0))),eb]/\(Row (.slice ay O.length b1) b2 140 6 O.length (gfl RbV.cells O))/\(AllRv a5 O)/\(O.map RbV.b=loB M ((xs.take k).map RbV.b))/\(O.length<=k)/\(k<=xs.length)) _ ⟨H,0,([]: List RbV),(some bm,.cells #[] 140 (0,0)),(some ⟨bm,0,none⟩),0,Le.refl _,rfl,C.pk J,F,(by simpa using (show Row _ _ _ _ 0 (gfl RbV.cells []) from (Row.empty bm 140 6))),(AllRv.nil _),rfl,j1,j0⟩ ?_)));intro e1 a w bv;obtain⟨a5,k,O,b2,ay,b1,ap,du,C,F,bt,a0,b8,dh,hk⟩:=bv;have ax:=ax.mono ap;have av:=av.mono ap;have X:=X.mono ap;refine wp_seq (wp_seq (ab (Lm J C fun a C=>?_)));refine Lm J C fun a C=>?_;refine lin J (aE C J J fun a C=>?_);refine lin J (ac (f:=1) (o2:=1) T133 T131 J J J J C J J fun a C=>?_);refine lin J (ae (v:=(.slice A xs.length c)) T131 J C J (F.blkL 3 J) J J fun a C=>?_);refine lin J (aI T131.und C J J fun a C=>?_);refine lin J (aQ (i:=((k: Nat): Int)) (j:=((xs.length: Nat): Int)) C J J J fun a C=>?_);refine wpList_nil (aa (ai (t:=26) C J (fun ck C=>?_) (fun ck C=>?_)))
  ·refine ao C J (wp_skip (aa (wp_seq (wp_block (wp_seq (ab (Lm J C fun a C=>?_)))))));refine lin J (aE C J J fun a C=>?_);refine lin J (ac (f:=1) (o2:=1) T133 T131 J J J J C J J fun a C=>?_);refine lin J (ae (v:=(.slice A xs.length c)) T131 J C J (F.blkL 3 J) J J fun a C=>?_);refine Lm J C fun a C=>?_;obtain⟨G,bi,dk,cd,b9,db,d5,d1⟩:=Row.getG RbV.len j2 a1 (j:=k) j0;have co:(A: Option Addr)=some ⟨bi,0,none⟩:=by injection db
   obtain⟨dy,dw⟩:=AllRv.at_ X b9;refine lin J (az (b:=bi) (o:=0) (j:=k) T131.und T140 co C J J j0 j0 J fun a C=>?_);refine lin J (ac (f:=0) (o2:=(0+k * 6+0)) T140 T3 J J J J C J J fun a C=>?_);refine lin J (ae (v:=(iV ((G.b.1: Nat): Int))) T3 J C J (F.blkL 4 (b:=bi) (o:=.cells cd 140 (0,0)) (by rw [<- d5];rfl)) (d1 0 _ J) J fun a C=>?_);refine Lm J C fun a C=>?_;refine lin J (aQ (i:=((G.b.1: Nat): Int)) (j:=((M: Nat): Int)) C J J J fun a C=>?_);refine wpList_nil (aa (ai (t:=38) C J (fun cl C=>?_) (fun cl C=>?_)))
   ·refine ao C J (ab (Lm J C fun a C=>?_));refine Lm J C fun a C=>?_;refine lin J (aE C J J fun a C=>?_);refine lin J (ac (f:=1) (o2:=1) T133 T131 J J J J C J J fun a C=>?_);refine lin J (ae (v:=(.slice A xs.length c)) T131 J C J (F.blkL 3 J) J J fun a C=>?_);refine Lm J C fun a C=>?_;obtain⟨di,bj,dl,ce,c8,dc,d6,d2⟩:=Row.getG RbV.len j2 a1 (j:=k) j0;have cp:(A: Option Addr)=some ⟨bj,0,none⟩:=by injection dc
    obtain⟨c0,bx⟩:=AllRv.at_ X c8;obtain rfl: G=di:=Option.some.inj (b9.symm.trans c8);refine lin J (az (b:=bj) (o:=0) (j:=k) T131.und T140 cp C J J j0 j0 J fun a C=>?_);refine lin J (am (vs:= [(iV ((G.b.1: Nat): Int)),(iV G.b.2.kind),(.string G.b.2.nm),(.slice G.A G.b.2.words.length G.c),(.bool G.b.2.bound),(.slice G.A2 G.b.2.hooks.length G.c2)]) T140 J C J (F.blkL 4 (b:=bj) (o:=.cells ce 140 (0,0)) (by rw [<- d6];rfl)) J d2 J fun a C=>?_);refine lin J (a6 (vs:= [(0,(.agg #[(iV ((G.b.1: Nat): Int)),(iV G.b.2.kind),(.string G.b.2.nm),(.slice G.A G.b.2.words.length G.c),(.bool G.b.2.bound),(.slice G.A2 G.b.2.hooks.length G.c2)]))]) (cells:= [(iV ((G.b.1: Nat): Int)),(iV G.b.2.kind),(.string G.b.2.nm),(.slice G.A G.b.2.words.length G.c),(.bool G.b.2.bound),(.slice G.A2 G.b.2.hooks.length G.c2)]) T131.und T140 F C (C.evp J) J J J J fun ca a w F C=>?_);obtain⟨c4,F,b5,cw⟩:=F.give;have a0:=a0.mono b5;have c0:=c0.mono b5;have bx:=bx.mono b5;refine lin J (aS (news:=(gfl RbV.cells ([G]: List RbV))) (xs:=(gfl RbV.cells O)) T131.und T140 J J F bt C J J (aN RbV.len _) (fun _=>⟨ca,0,_,_,_,rfl,F.blkH cw,aj J⟩) (cO RbV.one' _) j0 J J fun e3 ch a w ah F C=>?_);rw [<- a7] at ah;obtain⟨bc,bo,rfl⟩:=ah.slice;have Z:(O.length+1)=(O++([G]: List RbV)).length:=by have Y:=ah.1;rw [aN RbV.len] at Y;omega
    rw [show Value.slice bc (O.length+1) bo=Value.slice bc (O++([G]: List RbV)).length bo from by rw [Z]] at C;rw [Z] at ah;have cq: AllRv c4 (O++([G]: List RbV)):=(a0.append (AllRv.one ⟨c0,bx⟩));refine Ls J C fun a C=>?_;refine wpList_nil (ar (aa (ab (Lm J C fun a C=>?_))));refine lin J (aF (i:=((k: Nat): Int)) (j:=1) C J J J j0 fun a C=>?_);refine Ls J C fun a C=>?_;refine wpList_nil (aa (?_));exact⟨xs.length - (k+1),by omega,c4,(k+1),(O++([G]: List RbV)),ch,bc,bo,(ap.trans (b5)),rfl,C.pk J,F,ah,cq,(lo_on b8 b9 j0),(by simp only [List.length_append,List.length_cons,List.length_nil];omega),j0⟩
   ·refine ag C J (wp_skip (ar (aa (ab (Lm J C fun a C=>?_)))));refine lin J (aF (i:=((k: Nat): Int)) (j:=1) C J J J j0 fun a C=>?_);refine Ls J C fun a C=>?_;refine wpList_nil (aa (?_));exact⟨xs.length - (k+1),by omega,a5,(k+1),O,b2,ay,b1,(ap),rfl,C.pk J,F,bt,a0,(lo_off b8 b9 j0),j0,j0⟩
  ·refine ag C J (wp_exit (aw (aw (aH (aa (wp_seq (ab (Lm J C fun a C=>?_))))))));refine lin J (am (vs:= [(iV ((M: Nat): Int)),(iV x.b.2.kind),(.string x.b.2.nm),(.slice x.A x.b.2.words.length x.c),(.bool x.b.2.bound),(.slice x.A2 x.b.2.hooks.length x.c2)]) T140 J C J (F.blkL 2 J) J (aj J) J fun a C=>?_);refine lin J (a6 (vs:= [(0,(.agg #[(iV ((M: Nat): Int)),(iV x.b.2.kind),(.string x.b.2.nm),(.slice x.A x.b.2.words.length x.c),(.bool x.b.2.bound),(.slice x.A2 x.b.2.hooks.length x.c2)]))]) (cells:= [(iV ((M: Nat): Int)),(iV x.b.2.kind),(.string x.b.2.nm),(.slice x.A x.b.2.words.length x.c),(.bool x.b.2.bound),(.slice x.A2 x.b.2.hooks.length x.c2)]) T131.und T140 F C (C.evp J) J J J J fun cb a w F C=>?_);obtain⟨bh,F,b6,cy⟩:=F.give;have ax:=ax.mono b6;have av:=av.mono b6;have X:=X.mono b6;have a0:=a0.mono b6;refine lin J (aS (news:=(gfl RbV.cells ([(RbV.mk (M,x.b.2) x.A x.c x.A2 x.c2)]: List RbV))) (xs:=(gfl RbV.cells O)) T131.und T140 J J F bt C J J (aN RbV.len _) (fun _=>⟨cb,0,_,_,_,rfl,F.blkH cy,aj J⟩) (cO RbV.one' _) j0 J J fun e4 ci a w ak F C=>?_);rw [<- a7] at ak;obtain⟨bf,bp,rfl⟩:=ak.slice;have Z:(O.length+1)=(O++([(RbV.mk (M,x.b.2) x.A x.c x.A2 x.c2)]: List RbV)).length:=by have Y:=ak.1;rw [aN RbV.len] at Y;omega
   rw [show Value.slice bf (O.length+1) bp=Value.slice bf (O++([(RbV.mk (M,x.b.2) x.A x.c x.A2 x.c2)]: List RbV)).length bp from by rw [Z]] at C;rw [Z] at ak;have cr: AllRv bh (O++([(RbV.mk (M,x.b.2) x.A x.c x.A2 x.c2)]: List RbV)):=(a0.append (AllRv.one ⟨ax,av⟩));refine Ls J C fun a C=>?_;refine wpList_nil (aa (wp_seq (wp_seq (ab (Ls J C fun a C=>?_)))));refine wpList_nil (aa (wp_block ?_));obtain rfl: k=xs.length:=by omega
   rw [List.take_length,aq] at b8;refine aL (fun c3 a w=> ∃(a8: PHeap),∃(T: Nat),∃(V: List RbV),∃(b3: Ent),∃(a4: Option Addr),∃(a9: Nat),Le bh a8/\c3=xs.length - T/\Has [] a 92 [(0,(pB r)),(3,(pB a2)),(4,(pB a3)),(6,(iV ((M: Nat): Int))),(7,(.slice a4 V.length a9)),(9,(iV ((T: Nat): Int)))]/\Step w0 H [(some r,.cells #[.int .i64 (S.length: Int),.slice A xs.length c] 133 (0,0)),eb] w a8 [b3,(some a3,(.cells #[(iV 0),(iV 0),(.string (⟨#[]⟩)),(.bool false)] 35 (0,0))),(some a2,(.cells #[(iV ((M: Nat): Int)),(iV x.b.2.kind),(.string x.b.2.nm),(.slice x.A x.b.2.words.length x.c),(.bool x.b.2.bound),(.slice x.A2 x.b.2.hooks.length x.c2)] 140 (0,0))),(some r,(.cells #[(iV ((S.length: Nat): Int)),(.slice A xs.length c)] 133 (0,0))),eb]/\(Row (.slice a4 V.length a9) b3 140 6 V.length (gfl RbV.cells V))/\(AllRv a8 V)/\(V.map RbV.b=(loB M (enB 0 S)++ [(M,x.b.2)])++hiB M ((xs.take T).map RbV.b))/\(V.length<=xs.length+1+T)/\(T<=xs.length)) _ ⟨bh,0,(O++([(RbV.mk (M,x.b.2) x.A x.c x.A2 x.c2)]: List RbV)),ci,bf,bp,Le.refl _,rfl,C.pk J,F,(by simpa using ak),cr,(by rw [List.map_append,b8];simp [hiB]),(by simp only [List.length_append,List.length_cons,List.length_nil];omega),j0⟩ ?_;intro e2 a w bv;obtain⟨a8,T,V,b3,a4,a9,bw,dv,C,F,bu,ad,b4,dh,dq⟩:=bv;have X:=X.mono bw;refine wp_seq (wp_seq (ab (Lm J C fun a C=>?_)));refine Lm J C fun a C=>?_;refine lin J (aE C J J fun a C=>?_);refine lin J (ac (f:=1) (o2:=1) T133 T131 J J J J C J J fun a C=>?_);refine lin J (ae (v:=(.slice A xs.length c)) T131 J C J (F.blkL 3 J) J J fun a C=>?_);refine lin J (aI T131.und C J J fun a C=>?_);refine lin J (aQ (i:=((T: Nat): Int)) (j:=((xs.length: Nat): Int)) C J J J fun a C=>?_);refine wpList_nil (aa (ai (t:=59) C J (fun cm C=>?_) (fun cm C=>?_)))
   ·refine ao C J (wp_skip (aa (wp_seq (wp_block (wp_seq (ab (Lm J C fun a C=>?_)))))));refine lin J (aE C J J fun a C=>?_);refine lin J (ac (f:=1) (o2:=1) T133 T131 J J J J C J J fun a C=>?_);refine lin J (ae (v:=(.slice A xs.length c)) T131 J C J (F.blkL 3 J) J J fun a C=>?_);refine Lm J C fun a C=>?_;obtain⟨I,bk,dm,cf,ba,df,d7,d3⟩:=Row.getG RbV.len j2 a1 (j:=T) j0;have ct:(A: Option Addr)=some ⟨bk,0,none⟩:=by injection df
    obtain⟨dz,dx⟩:=AllRv.at_ X ba;refine lin J (az (b:=bk) (o:=0) (j:=T) T131.und T140 ct C J J j0 j0 J fun a C=>?_);refine lin J (ac (f:=0) (o2:=(0+T * 6+0)) T140 T3 J J J J C J J fun a C=>?_);refine lin J (ae (v:=(iV ((I.b.1: Nat): Int))) T3 J C J (F.blkL 4 (b:=bk) (o:=.cells cf 140 (0,0)) (by rw [<- d7];rfl)) (d3 0 _ J) J fun a C=>?_);refine Lm J C fun a C=>?_;refine lin J (cx (i:=((I.b.1: Nat): Int)) (j:=((M: Nat): Int)) C J J J fun a C=>?_);refine wpList_nil (aa (ai (t:=71) C J (fun cn C=>?_) (fun cn C=>?_)))
    ·refine ao C J (ab (Lm J C fun a C=>?_));refine Lm J C fun a C=>?_;refine lin J (aE C J J fun a C=>?_);refine lin J (ac (f:=1) (o2:=1) T133 T131 J J J J C J J fun a C=>?_);refine lin J (ae (v:=(.slice A xs.length c)) T131 J C J (F.blkL 3 J) J J fun a C=>?_);refine Lm J C fun a C=>?_;obtain⟨dj,bl,dn,cg,c9,dg,d8,d4⟩:=Row.getG RbV.len j2 a1 (j:=T) j0;have cu:(A: Option Addr)=some ⟨bl,0,none⟩:=by injection dg
     obtain⟨c1,bz⟩:=AllRv.at_ X c9;obtain rfl: I=dj:=Option.some.inj (ba.symm.trans c9);refine lin J (az (b:=bl) (o:=0) (j:=T) T131.und T140 cu C J J j0 j0 J fun a C=>?_);refine lin J (am (vs:= [(iV ((I.b.1: Nat): Int)),(iV I.b.2.kind),(.string I.b.2.nm),(.slice I.A I.b.2.words.length I.c),(.bool I.b.2.bound),(.slice I.A2 I.b.2.hooks.length I.c2)]) T140 J C J (F.blkL 4 (b:=bl) (o:=.cells cg 140 (0,0)) (by rw [<- d8];rfl)) J d4 J fun a C=>?_);refine lin J (a6 (vs:= [(0,(.agg #[(iV ((I.b.1: Nat): Int)),(iV I.b.2.kind),(.string I.b.2.nm),(.slice I.A I.b.2.words.length I.c),(.bool I.b.2.bound),(.slice I.A2 I.b.2.hooks.length I.c2)]))]) (cells:= [(iV ((I.b.1: Nat): Int)),(iV I.b.2.kind),(.string I.b.2.nm),(.slice I.A I.b.2.words.length I.c),(.bool I.b.2.bound),(.slice I.A2 I.b.2.hooks.length I.c2)]) T131.und T140 F C (C.evp J) J J J J fun cc a w F C=>?_);obtain⟨c5,F,b7,cz⟩:=F.give;have ad:=ad.mono b7;have c1:=c1.mono b7;have bz:=bz.mono b7;refine lin J (aS (news:=(gfl RbV.cells ([I]: List RbV))) (xs:=(gfl RbV.cells V)) T131.und T140 J J F bu C J J (aN RbV.len _) (fun _=>⟨cc,0,_,_,_,rfl,F.blkH cz,aj J⟩) (cO RbV.one' _) j0 J J fun e5 cj a w an F C=>?_);rw [<- a7] at an;obtain⟨bg,bq,rfl⟩:=an.slice;have Z:(V.length+1)=(V++([I]: List RbV)).length:=by have Y:=an.1;rw [aN RbV.len] at Y;omega
     rw [show Value.slice bg (V.length+1) bq=Value.slice bg (V++([I]: List RbV)).length bq from by rw [Z]] at C;rw [Z] at an;have cv: AllRv c5 (V++([I]: List RbV)):=(ad.append (AllRv.one ⟨c1,bz⟩));refine Ls J C fun a C=>?_;refine wpList_nil (ar (aa (ab (Lm J C fun a C=>?_))));refine lin J (aF (i:=((T: Nat): Int)) (j:=1) C J J J j0 fun a C=>?_);refine Ls J C fun a C=>?_;refine wpList_nil (aa (?_));exact⟨xs.length - (T+1),by omega,c5,(T+1),(V++([I]: List RbV)),cj,bg,bq,(bw.trans (b7)),rfl,C.pk J,F,an,cv,(hi_on b4 ba j0),(by simp only [List.length_append,List.length_cons,List.length_nil];omega),j0⟩
    ·refine ag C J (wp_skip (ar (aa (ab (Lm J C fun a C=>?_)))));refine lin J (aF (i:=((T: Nat): Int)) (j:=1) C J J J j0 fun a C=>?_);refine Ls J C fun a C=>?_;refine wpList_nil (aa (?_));exact⟨xs.length - (T+1),by omega,a8,(T+1),V,b3,a4,a9,(bw),rfl,C.pk J,F,bu,ad,(hi_off b4 ba j0),j0,j0⟩
   ·refine ag C J (wp_exit (aw (aw (aH (aa (wp_seq (ab (Lm J C fun a C=>?_))))))));refine Lm J C fun a C=>?_;refine lin J (aE C J J fun a C=>?_);refine lin J (ac (f:=1) (o2:=1) T133 T131 J J J J C J J fun a C=>?_);refine lin J (al (cs':= #[(iV ((S.length: Nat): Int)),(.slice a4 V.length a9)]) T131 F (i:=3) J C J J J J J J fun a w F C=>?_);refine wpList_nil (aa (wp_seq (ab (lin J (ac (f:=1) (o2:=1) T140 T3 J J J J C J J fun a C=>?_)))));refine lin J (ae (v:=(iV x.b.2.kind)) T3 J C J (F.blkL 2 J) J J fun a C=>?_);refine lin J (cK (i:=x.b.2.kind) (j:=1) C J J J j0 fun a C=>?_);refine lin J (aF (i:=(x.b.2.kind - 1)) (j:=4) C J J J j0 fun a C=>?_);refine Lm J C fun a C=>?_;refine lin J (aA (vs:= [(0,(iV ((x.b.2.kind - 1)+4))),(1,(iV ((M: Nat): Int))),(3,(.bool true))]) (cells:= [(iV ((x.b.2.kind - 1)+4)),(iV ((M: Nat): Int)),(.string (⟨#[]⟩)),(.bool true)]) T35 PL35 C (C.evp J) J J fun a C=>?_);refine lin J (al (cs':= #[(iV ((x.b.2.kind - 1)+4)),(iV ((M: Nat): Int)),(.string (⟨#[]⟩)),(.bool true)]) T35 F (i:=1) J C J J J J J J fun a w F C=>?_);refine Ls J C fun a C=>?_;refine wpList_nil (aa (wp_ret (retA1 (i:=1) (cs:= #[(iV ((x.b.2.kind - 1)+4)),(iV ((M: Nat): Int)),(.string (⟨#[]⟩)),(.bool true)]) J T35 J F J C J J J ?_)));have F:=F.fd [2,0,2,0,3,0,2] J;have au: ¬ rmS S x.b.2.size < 0:=br;have c6: rmS S x.b.2.size=(M: Int):=c7;unfold addW addS;rw [if_neg au,if_neg au,c6,Int.toNat_natCast,PB.tag_kind];obtain rfl: T=xs.length:=by omega
    rw [List.take_length,aq] at b4;refine⟨_,_,_,?_,⟨_,_,_,?_,bu,ad,?_⟩,F⟩
    ·simp only [wv,Wd.mk,show x.b.2.kind - 1+4=x.b.2.kind+3 by omega]
    ·rw [List.length_set]
    ·rw [b4,enB_add x.b.2 (hfr M c6),Nat.zero_add,List.append_assoc];rfl
theorem c_rmade {w0: World} {H: PHeap} {r: Nat} {S: PS} {es eb: Ent} (hI: Inv w0 H [es,eb]) (hK: RK r S H es eb) (hSl: S.length<=65536) {x: RbV} (hxv: VOk H x) (hxs: x.b.2.words.length<=64) (hwl: ∀(j: Nat) (b: PB),S[j]? =some (some b)->j+b.size<=S.length/\b.words.length<=64) (hfr: ∀ p: Nat,rmS S x.b.2.size=(p: Int)->S[p]? =some none): Calls prog 115 #[(pB r),(.agg #[(iV ((x.b.1: Nat): Int)),(iV x.b.2.kind),(.string x.b.2.nm),(.slice x.A x.b.2.words.length x.c),(.bool x.b.2.bound),(.slice x.A2 x.b.2.hooks.length x.c2)])] w0 (fun e w'=> ∃ H' es' eb',e=.returned (.tuple #[wv (refW x.b.2.tag (rmS S x.b.2.size)).1,.int .i64 (refW x.b.2.tag (rmS S x.b.2.size)).2])/\RK r (addS S x.b.2) H' es' eb'/\Step w0 H [es,eb] w' H' [es',eb']):=by
 obtain⟨xs,A,c,rfl,T,X,V⟩:=hK;have F:=Step.refl hI;have a7:=bI V;have a8:=bn S 0;have a6:=Row.cap T;obtain⟨a1,a0⟩:=hxv;refine enter [(pB r),(.agg #[(iV ((x.b.1: Nat): Int)),(iV x.b.2.kind),(.string x.b.2.nm),(.slice x.A x.b.2.words.length x.c),(.bool x.b.2.bound),(.slice x.A2 x.b.2.hooks.length x.c2)])] func115 J ntmps115 J fun a C=>?_;refine wp_seq (ab (lin J (aG (cs:= #[(iV ((x.b.1: Nat): Int)),(iV x.b.2.kind),(.string x.b.2.nm),(.slice x.A x.b.2.words.length x.c),(.bool x.b.2.bound),(.slice x.A2 x.b.2.hooks.length x.c2)]) F C J J J fun I a w F C=>?_)));refine lin J (aB (cs:= #[(iV 0),(iV 0),(.string (⟨#[]⟩)),(.bool false)]) T35 F C J J fun M a w F C=>?_);refine Ls J C fun a C=>?_;refine wpList_nil (aa (wp_seq (ab (Lm J C fun a C=>?_))));refine lin J (am (vs:= [(iV ((x.b.1: Nat): Int)),(iV x.b.2.kind),(.string x.b.2.nm),(.slice x.A x.b.2.words.length x.c),(.bool x.b.2.bound),(.slice x.A2 x.b.2.hooks.length x.c2)]) T140 J C J (F.blkL 1 J) J (aj J) J fun a C=>?_);have Z:=c_radd (x:=x) (F.tail [(some M,(.cells #[(iV 0),(iV 0),(.string (⟨#[]⟩)),(.bool false)] 35 (0,0))),(some I,(.cells #[(iV ((x.b.1: Nat): Int)),(iV x.b.2.kind),(.string x.b.2.nm),(.slice x.A x.b.2.words.length x.c),(.bool x.b.2.bound),(.slice x.A2 x.b.2.hooks.length x.c2)] 140 (0,0)))]) ⟨_,_,_,rfl,T,X,V⟩ hSl ⟨a1,a0⟩ hxs hwl hfr;refine lin J (Co func134 C J (Z) ?_);rintro e w ⟨a2,a5,a4,rfl,O,Y⟩;refine⟨_,rfl,fun a C=>?_⟩;have F:=F.frameR [(some M,(.cells #[(iV 0),(iV 0),(.string (⟨#[]⟩)),(.bool false)] 35 (0,0))),(some I,(.cells #[(iV ((x.b.1: Nat): Int)),(iV x.b.2.kind),(.string x.b.2.nm),(.slice x.A x.b.2.words.length x.c),(.bool x.b.2.bound),(.slice x.A2 x.b.2.hooks.length x.c2)] 140 (0,0)))] Y;refine Lm J C fun a C=>?_;refine lin J (ah (v:=(.agg #[(iV (((addW S x.b.2).1).tag)),(iV (((addW S x.b.2).1).n)),(.string (((addW S x.b.2).1).s)),(.bool (((addW S x.b.2).1).one))])) C J J J fun a C=>?_);refine lin J (ah (v:=(.bool ((addW S x.b.2).2))) C J J J fun a C=>?_);refine lin J (aB (cs:= #[(iV 0),(iV 0),(.string (⟨#[]⟩)),(.bool false)]) T35 F C J J fun a3 a w F C=>?_);refine lin J (al (cs':= #[(iV (((addW S x.b.2).1).tag)),(iV (((addW S x.b.2).1).n)),(.string (((addW S x.b.2).1).s)),(.bool (((addW S x.b.2).1).one))]) T35 F (i:=0) J C J J J J J J fun a w F C=>?_);refine Ls J C fun a C=>?_;refine wpList_nil (aa (wp_seq (wp_seq (ab (Lm J C fun a C=>?_)))));refine lin J (aK C J J fun a C=>?_);refine wpList_nil (aa (au (t:=15) C J (fun G C=>?_) (fun G C=>?_)))
 ·refine ao C J (wp_seq (ab (lin J (aA (vs:= []) (cells:= [(iV 0),(iV 0),(.string (⟨#[]⟩)),(.bool false)]) T35 PL35 C (C.evp J) J J fun a C=>?_))));refine lin J (al (cs':= #[(iV 0),(iV 0),(.string (⟨#[]⟩)),(.bool false)]) T35 F (i:=1) J C J J J J J J fun a w F C=>?_);refine Ls J C fun a C=>?_;refine wpList_nil (aa (wp_ret (af (retA1 (i:=1) (cs:= #[(iV 0),(iV 0),(.string (⟨#[]⟩)),(.bool false)]) J T35 J F J C J J J ?_))));have F:=F.fd [0,0,0] J;rw [addW_off (by simpa using G)];exact⟨_,_,_,rfl,O,F⟩
 ·refine ag C J (wp_skip (aa (wp_seq (ab (lin J (am (vs:= [(iV (((addW S x.b.2).1).tag)),(iV (((addW S x.b.2).1).n)),(.string (((addW S x.b.2).1).s)),(.bool (((addW S x.b.2).1).one))]) T35 J C J (F.blkL 0 J) J (aj J) J fun a C=>?_))))));refine lin J (al (cs':= #[(iV (((addW S x.b.2).1).tag)),(iV (((addW S x.b.2).1).n)),(.string (((addW S x.b.2).1).s)),(.bool (((addW S x.b.2).1).one))]) T35 F (i:=1) J C J J J J J J fun a w F C=>?_);refine Ls J C fun a C=>?_;refine wpList_nil (aa (wp_ret (retA1 (i:=1) (cs:= #[(iV (((addW S x.b.2).1).tag)),(iV (((addW S x.b.2).1).n)),(.string (((addW S x.b.2).1).s)),(.bool (((addW S x.b.2).1).one))]) J T35 J F J C J J J ?_)));have F:=F.fd [0,0,0] J;rw [addW_on (by simpa using G)];exact⟨_,_,_,rfl,O,F⟩
end Go.Vk.Tryz
namespace Go.Vk
section
variable {h: HS}
theorem var_eq (hO: h.Ok): h.var.2=refW 4 (rmS h.S (PB.var [] []).size)/\h.var.1.S=addS h.S (.var [] []):=by
 obtain⟨h1,h2⟩:=fk hO (b:=.var [] []);exact⟨by show refW 4 (h.place _).2=_;rw [h2],h1⟩
end
end Go.Vk
namespace Go.Vk.Tryz
open Go.RowKit
theorem c_rVar {w0: World} {H: PHeap} {r: Nat} {h: HS} {es eb: Ent} (hO: h.Ok) (hI: Inv w0 H [es,eb]) (hK: RK r h.S H es eb): Calls prog 77 #[(pB r)] w0 (fun e w'=> ∃ H' es' eb',e=.returned (.tuple #[wv (h.var).2.1,.int .i64 (h.var).2.2])/\RK r (h.var).1.S H' es' eb'/\Step w0 H [es,eb] w' H' [es',eb']):=by
 have V:=hO.le;obtain⟨xs,A,c,rfl,I,O,M⟩:=hK;have F:=Step.refl hI;have a5:=bI M;have a6:=bn (HS.S h) 0;have a4:=Row.cap I;refine enter [(pB r)] func77 J ntmps77 J fun a C=>?_;refine wp_seq (ab (lin J (aB (cs:= #[(iV 0),(iV 0),(.string (⟨#[]⟩)),(.bool false)]) T35 F C J J fun G a w F C=>?_)));refine Ls J C fun a C=>?_;refine wpList_nil (aa (wp_seq (ab (Lm J C fun a C=>?_))));refine lin J (aA (vs:= [(1,(iV 1))]) (cells:= [(iV 0),(iV 1),(.string (⟨#[]⟩)),(.slice none 0 0),(.bool false),(.slice none 0 0)]) T140 PL140 C (C.evp J) J J fun a C=>?_);have Y:=c_rmade (x:=(RbV.mk (0,PB.var [] []) none 0 none 0)) (F.tail [(some G,(.cells #[(iV 0),(iV 0),(.string (⟨#[]⟩)),(.bool false)] 35 (0,0)))]) ⟨_,_,_,rfl,I,O,M⟩ V ⟨RowG.nil,RowI.nil _⟩ (show ((PB.var [] [])).words.length<=64 by exact Nat.zero_le _) hO.wl (hO.fr (PB.size_pos _));refine lin J (Co func115 C J (Y) ?_);rintro e w ⟨a1,a3,a2,rfl,T,X⟩;refine⟨_,rfl,fun a C=>?_⟩;have F:=F.frameR [(some G,(.cells #[(iV 0),(iV 0),(.string (⟨#[]⟩)),(.bool false)] 35 (0,0)))] X;refine lin J (ah (v:=(.agg #[(iV (((refW (PB.tag (PB.var [] [])) (rmS (HS.S h) (PB.size (PB.var [] [])))).1).tag)),(iV (((refW (PB.tag (PB.var [] [])) (rmS (HS.S h) (PB.size (PB.var [] [])))).1).n)),(.string (((refW (PB.tag (PB.var [] [])) (rmS (HS.S h) (PB.size (PB.var [] [])))).1).s)),(.bool (((refW (PB.tag (PB.var [] [])) (rmS (HS.S h) (PB.size (PB.var [] [])))).1).one))])) C J J J fun a C=>?_);refine lin J (ah (v:=(iV ((refW (PB.tag (PB.var [] [])) (rmS (HS.S h) (PB.size (PB.var [] [])))).2))) C J J J fun a C=>?_);refine lin J (al (cs':= #[(iV (((refW (PB.tag (PB.var [] [])) (rmS (HS.S h) (PB.size (PB.var [] [])))).1).tag)),(iV (((refW (PB.tag (PB.var [] [])) (rmS (HS.S h) (PB.size (PB.var [] [])))).1).n)),(.string (((refW (PB.tag (PB.var [] [])) (rmS (HS.S h) (PB.size (PB.var [] [])))).1).s)),(.bool (((refW (PB.tag (PB.var [] [])) (rmS (HS.S h) (PB.size (PB.var [] [])))).1).one))]) T35 F (i:=0) J C J J J J J J fun a w F C=>?_);refine Ls J C fun a C=>?_;refine wpList_nil (aa (wp_ret (retA1 (i:=0) (cs:= #[(iV (((refW (PB.tag (PB.var [] [])) (rmS (HS.S h) (PB.size (PB.var [] [])))).1).tag)),(iV (((refW (PB.tag (PB.var [] [])) (rmS (HS.S h) (PB.size (PB.var [] [])))).1).n)),(.string (((refW (PB.tag (PB.var [] [])) (rmS (HS.S h) (PB.size (PB.var [] [])))).1).s)),(.bool (((refW (PB.tag (PB.var [] [])) (rmS (HS.S h) (PB.size (PB.var [] [])))).1).one))]) J T35 J F J C J J J ?_)));have F:=F.drop;obtain⟨Z,a0⟩:=var_eq hO;rw [Z,a0];exact⟨_,_,_,rfl,T,F⟩
end Go.Vk.Tryz
namespace Go.Vk
def derS (S: PS): Nat->Wd->Wd × Int
 | 0,_=>(Wd.zero,2)
 | k+1,w=>if ¬ w.tag=4 then (w,0) else match atS S w with
  | some (.var (x::_) _)=>if wordS S x=false then (Wd.zero,211) else derS S k (nxtW w x)
  | _=>(w,0)
def dS (S: PS) (w: Wd): Wd × Int:=if wordS S w=false then (Wd.zero,211) else derS S (S.length+1) w
def tgS (S: PS) (v: Wd): Int × Int:=if ¬(dS S v).2=0 then (0,(dS S v).2) else if ¬(dS S v).1.tag=4 then (0,211) else (fdI (enB 0 S) (dS S v).1.n,0)
section
variable {S: PS} {w x: Wd} {k: Nat}
theorem der_lit (h: ¬ w.tag=4): derS S (k+1) w=(w,0):=by rw [derS,if_pos h]
theorem der_end {hk: List Int} (h: w.tag=4) (ha: atS S w=some (.var [] hk)): derS S (k+1) w=(w,0):=by rw [derS,if_neg j0,ha]
theorem der_bad {ys: List Wd} {hk: List Int} (h: w.tag=4) (ha: atS S w=some (.var (x::ys) hk)) (hw: wordS S x=false): derS S (k+1) w=(Wd.zero,211):=by rw [derS,if_neg j0,ha];simp only [hw,if_true]
theorem dX {ys: List Wd} {hk: List Int} (h: w.tag=4) (ha: atS S w=some (.var (x::ys) hk)) (hw: wordS S x=true): derS S (k+1) w=derS S k (nxtW w x):=by rw [derS,if_neg j0,ha];simp [hw]
theorem ee (hw: wordS S x=true): wordS S (nxtW w x)=true:=by
 unfold nxtW
 split
 ·rename_i h
  unfold wordS at hw ⊢;unfold refB at h;simp only [Bool.or_eq_true,decide_eq_true_eq] at h;rw [if_neg j0,if_neg j0,if_neg j0] at hw;rw [if_neg (show ¬ x.tag=1 by omega),if_neg (show ¬ x.tag=2 by omega),if_neg (show ¬ x.tag=3 by omega)];exact hw
 ·exact hw
theorem cP (hw: wordS S w=true) (hr: refB w=true): ∃(q j: Nat) (b: PB),fdI (enB 0 S) w.n=(q: Int)/\(enB 0 S)[q]? =some (j,b)/\w.n=(j: Int)/\S[j]? =some (some b)/\atS S w=some b/\w.tag=b.tag:=by
 unfold wordS at hw;unfold refB at hr;simp only [Bool.or_eq_true,decide_eq_true_eq] at hr;rw [if_neg j0,if_neg j0,if_neg j0,Bool.and_eq_true,Option.isSome_iff_exists] at hw;obtain⟨_,b,hb⟩:=hw
 rcases atS_fd S w with ⟨_,h⟩ |⟨q,j,c,h1,h2,h3,h4,h5,h6⟩
 ·rw [h] at hb;cases hb
 ·obtain⟨g1,g2,g3,g4,g5⟩:=aD hb;have h7:=h5 g3;rw [h7] at hb
  split at hb
  ·rename_i h8
   obtain rfl:=Option.some.inj hb;exact⟨q,j,c,h1,h2,h3,h4,by rw [h7,if_pos h8],h8⟩
  ·cases hb
theorem fX {b: PB} (h: b.tag=4): ∃ to hk,b=.var to hk:=by
 cases b with
 | var to hk=>exact ⟨to,hk,rfl⟩
 | fn s l=>cases h
 | vec l=>cases h
end
end Go.Vk
namespace Go.Vk.Tryz
open Go.RowKit
set_option maxHeartbeats 2000000 in
theorem eT {w0: World} {H: PHeap} {r: Nat} {S: PS} {es eb: Ent} (hI: Inv w0 H [es,eb]) (hK: RK r S H es eb) (hSl: S.length<=65536) {x: Wd} (hz: x.s.size<=2000000) (hwz: ∀(j: Nat) (b: PB),S[j]? =some (some b)->∀ w ∈ b.words,w.s.size<=2000000): Calls prog 82 #[(pB r),(.agg #[(iV x.tag),(iV x.n),(.string x.s),(.bool x.one)])] w0 (fun e w'=> ∃ H',e=.returned (.tuple #[wv (dS S x).1,.int .i64 (dS S x).2])/\Step w0 H [es,eb] w' H' [es,eb]):=by
 obtain⟨xs,A,c,rfl,ap,a4,b3⟩:=hK;have F:=Step.refl hI;have dk:=bI b3;have dl:=bn S 0;have di:=Row.cap ap;refine enter [(pB r),(.agg #[(iV x.tag),(iV x.n),(.string x.s),(.bool x.one)])] func82 J ntmps82 J fun a C=>?_;refine wp_seq (ab (lin J (aG (cs:= #[(iV x.tag),(iV x.n),(.string x.s),(.bool x.one)]) F C J J J fun a1 a w F C=>?_)));refine lin J (aB (cs:= #[(iV 0),(iV 0),(.string (⟨#[]⟩)),(.bool false)]) T35 F C J J fun a3 a w F C=>?_);refine Ls J C fun a C=>?_;refine wpList_nil (aa (wp_seq (wp_seq (ab (Lm J C fun a C=>?_)))));refine lin J (am (vs:= [(iV x.tag),(iV x.n),(.string x.s),(.bool x.one)]) T35 J C J (F.blkL 1 J) J (aj J) J fun a C=>?_);have d3:=dW (x:=x) (F.tail [(some a3,(.cells #[(iV 0),(iV 0),(.string (⟨#[]⟩)),(.bool false)] 35 (0,0))),(some a1,(.cells #[(iV x.tag),(iV x.n),(.string x.s),(.bool x.one)] 35 (0,0)))]) ⟨_,_,_,rfl,ap,a4,b3⟩ hSl hz;refine lin J (Co func125 C J (d3) ?_);rintro e w ⟨rfl,b1⟩;refine⟨_,rfl,fun a C=>?_⟩;have F:=F.frameR [(some a3,(.cells #[(iV 0),(iV 0),(.string (⟨#[]⟩)),(.bool false)] 35 (0,0))),(some a1,(.cells #[(iV x.tag),(iV x.n),(.string x.s),(.bool x.one)] 35 (0,0)))] b1;refine lin J (aK C J J fun a C=>?_);refine wpList_nil (aa (au (t:=12) C J (fun bm C=>?_) (fun bm C=>?_)))
 ·refine ao C J (wp_seq (ab (lin J (aA (vs:= []) (cells:= [(iV 0),(iV 0),(.string (⟨#[]⟩)),(.bool false)]) T35 PL35 C (C.evp J) J J fun a C=>?_))));refine lin J (al (cs':= #[(iV 0),(iV 0),(.string (⟨#[]⟩)),(.bool false)]) T35 F (i:=0) J C J J J J J J fun a w F C=>?_);refine Ls J C fun a C=>?_;refine wpList_nil (aa (wp_ret (af (retA1 (i:=0) (cs:= #[(iV 0),(iV 0),(.string (⟨#[]⟩)),(.bool false)]) J T35 J F J C J J J ?_))));have F:=F.fd [0,0] J;have bq: dS S x=(Wd.zero,211):=by unfold dS;rw [if_pos (by simpa using bm)]
  rw [bq];exact⟨_,rfl,F⟩
 ·refine ag C J (wp_skip (aa (wp_seq (wp_seq (ab (Ls J C fun a C=>?_))))));refine wpList_nil (aa (wp_block ?_));have cb: wordS S x=true:=by simpa using bm
  have bj: dS S x=derS S (S.length+1) x:=by unfold dS;rw [if_neg (by rw [cb];simp)]
  refine aL (fun d7 a w=> ∃(a9: PHeap),∃(k: Nat),∃(G: Wd),Le H a9/\d7=S.length+1 - k/\Has [] a 60 [(0,(pB r)),(3,(pB a1)),(4,(pB a3)),(6,(iV ((k: Nat): Int)))]/\Step w0 H [(some r,.cells #[.int .i64 (S.length: Int),.slice A xs.length c] 133 (0,0)),eb] w a9 [(some a3,(.cells #[(iV 0),(iV 0),(.string (⟨#[]⟩)),(.bool false)] 35 (0,0))),(some a1,(.cells #[(iV G.tag),(iV G.n),(.string G.s),(.bool G.one)] 35 (0,0))),(some r,(.cells #[(iV ((S.length: Nat): Int)),(.slice A xs.length c)] 133 (0,0))),eb]/\(k<=S.length+1)/\(wordS S G=true)/\(derS S (S.length+1 - k) G=derS S (S.length+1) x)) _ ⟨H,0,x,Le.refl _,rfl,C.pk J,F,j0,cb,rfl⟩ ?_;intro dv a w cz;obtain⟨a9,k,G,bk,dm,C,F,hk,cw,a5⟩:=cz;have a4:=a4.mono bk;refine wp_seq (wp_seq (ab (Lm J C fun a C=>?_)));refine Lm J C fun a C=>?_;refine lin J (aE C J J fun a C=>?_);refine lin J (ac (f:=0) (o2:=0) T133 T3 J J J J C J J fun a C=>?_);refine lin J (ae (v:=(iV ((S.length: Nat): Int))) T3 J C J (F.blkL 2 J) J J fun a C=>?_);refine lin J (cY (i:=((k: Nat): Int)) (j:=((S.length: Nat): Int)) C J J J fun a C=>?_);refine wpList_nil (aa (ai (t:=19) C J (fun ck C=>?_) (fun ck C=>?_)))
  ·refine ao C J (wp_skip (aa (wp_seq (wp_block (wp_seq (wp_seq (ab (lin J (ac (f:=0) (o2:=0) T35 T3 J J J J C J J fun a C=>?_)))))))));refine lin J (ae (v:=(iV G.tag)) T3 J C J (F.blkL 1 J) J J fun a C=>?_);refine lin J (bA (i:=G.tag) (j:=4) C J J J fun a C=>?_);refine wpList_nil (aa (aP (t:=24) C J (fun cl C=>?_) (fun cl C=>?_)))
   ·refine ao C J (wp_seq (ab (lin J (am (vs:= [(iV G.tag),(iV G.n),(.string G.s),(.bool G.one)]) T35 J C J (F.blkL 1 J) J (aj J) J fun a C=>?_))));refine lin J (al (cs':= #[(iV G.tag),(iV G.n),(.string G.s),(.bool G.one)]) T35 F (i:=0) J C J J J J J J fun a w F C=>?_);refine Ls J C fun a C=>?_;refine wpList_nil (aa (wp_ret (af (av (af (af (av (af (retA1 (i:=0) (cs:= #[(iV G.tag),(iV G.n),(.string G.s),(.bool G.one)]) J T35 J F J C J J J ?_)))))))));have F:=F.fd [0,0] J;obtain⟨cd,bc⟩: ∃ m,S.length+1 - k=m+1:=⟨S.length - k,by omega⟩;rw [bc] at a5;rw [der_lit j0] at a5;rw [bj,<- a5];exact⟨_,rfl,F⟩
   ·refine ag C J (wp_skip (aa (wp_seq ?_)));have b4: G.tag=4:=by omega
    obtain⟨a8,cc,cf,c3,bq,dn,d0,b8,dt⟩:=cP (S:=S) (w:=G) cw (by unfold refB;rw [b4];rfl);obtain⟨dw,bt,c1⟩:=map_at' b3 bq;have dr:=(List.getElem?_eq_some_iff.1 bt).1;obtain⟨d9,c7,rfl⟩:=fX (b:=cf) j0
    let bz:List (Nat×Value):=[(0,(pB r)),(3,(pB a1)),(4,(pB a3)),(6,(iV ((k: Nat): Int)))];rcases d9 with _ |⟨I,bl⟩
    ·obtain⟨V,bg,db,cg,c9,d4,cx,ct⟩:=Row.getG RbV.len j2 ap (j:=a8) j0;have cm:(A: Option Addr)=some ⟨bg,0,none⟩:=by injection d4
     obtain⟨ds,dp⟩:=AllRv.at_ a4 c9;have cp:=F;refine As.c_draw_head (ini:=(As.il [])) (sup:=(As.sl [])) (als:= [10]) (s0:=⟨a9,fun _=>none⟩) (L:= [(some a3,(.cells #[(iV 0),(iV 0),(.string (⟨#[]⟩)),(.bool false)] 35 (0,0))),(some a1,(.cells #[(iV G.tag),(iV G.n),(.string G.s),(.bool G.one)] 35 (0,0))),(some r,(.cells #[(iV ((S.length: Nat): Int)),(.slice A xs.length c)] 133 (0,0))),eb]) (N:=60) (E:= bz) 11 [FcV (pB r),FcV (pB r),FcV (.pointer (some ⟨r,1,none⟩)),FcV (.slice A xs.length c),FcV (pB r),FcV (.pointer (some ⟨a1,1,none⟩)),FcV (iV G.n),FcV (iV ((a8: Nat): Int)),FcV (.pointer (some ⟨bg,0+a8 * 6,none⟩)),FcV (.agg #[(iV ((V.b.1: Nat): Int)),(iV V.b.2.kind),(.string V.b.2.nm),(.slice V.A V.b.2.words.length V.c),(.bool V.b.2.bound),(.slice V.A2 V.b.2.hooks.length V.c2)]),fun s v=> ∃ b,s.ax 10=some [(some b,(.cells #[(iV 0),(iV 0),(.string (⟨#[]⟩)),(.slice none 0 0),(.bool false),(.slice none 0 0)] 140 (0,0)))]/\v=.pointer (some ⟨b,0,none⟩)] mixed J J J (As.M1 (As.M1 (As.M1 (As.M1 (As.M1 (As.M1 (As.M1 (As.M1 (As.M1 (As.M1 (As.Monos.cons (fun _ _ _ hl ⟨b,h,e⟩=>⟨b,hl.get h,e⟩) (As.Monos.nil)))))))))))) (fun _=>rfl) F (C.pk J) (As.QuietsI.c4 ?_ ?_ ?_ ?_ (As.QuietsI.c4 ?_ ?_ ?_ ?_ (As.QuietsI.c2 ?_ ?_ (As.QuietsI.cons ?_ (As.QuietsI.nil))))) (fun ci a w bw a0 F C b2=>?_)
     ·refine As.Qx J fun a w X O a2 Y F C Z a0=>?_;have T:=F;exact aq C J J fun a C=>As.ql C T
     ·refine As.Qx1 0 J fun a w X O a2 Y F C Z a0=>?_;have T:=F;exact aE C J J fun a C=>As.ql C T
     ·refine As.Qx1 1 J fun a w X O a2 Y F C Z a0=>?_;have T:=F;exact ac (f:=1) (o2:=1) T133 T131 J J J J C J J fun a C=>As.ql C T
     ·refine As.Qx1 2 J fun a w X O a2 Y F C Z a0=>?_;have T:=F;have F:=Step.dropN _ _ F;exact ae (v:=(.slice A xs.length c)) T131 J C J (F.blkL 2 J) J J fun a C=>As.ql C T
     ·refine As.Qx J fun a w X O a2 Y F C Z a0=>?_;have T:=F;exact aq C J J fun a C=>As.ql C T
     ·refine As.Qx J fun a w X O a2 Y F C Z a0=>?_;have T:=F;exact ac (f:=1) (o2:=1) T35 T3 J J J J C J J fun a C=>As.ql C T
     ·refine As.Qx1 5 J fun a w X O a2 Y F C Z a0=>?_;have T:=F;have F:=Step.dropN _ _ F;exact ae (v:=(iV G.n)) T3 J C J (F.blkL 1 J) J J fun a C=>As.ql C T
     ·refine As.Qx1 4 J fun a w X O a2 Y F C Z a0=>?_;obtain⟨_,C,rfl⟩:=Z.g C 6 J;have a4:=a4.mono a2;have T:=F;have cq:=Step.dropN _ _ F;have F:=Step.perm F (List.Perm.of_eq (List.append_assoc (As.aents (As.il []) (As.sl []) [10] O) [(some a3,(.cells #[(iV 0),(iV 0),(.string (⟨#[]⟩)),(.bool false)] 35 (0,0))),(some a1,(.cells #[(iV G.tag),(iV G.n),(.string G.s),(.bool G.one)] 35 (0,0)))] [(some r,(.cells #[(iV ((S.length: Nat): Int)),(.slice A xs.length c)] 133 (0,0))),eb]).symm);have c5:=dB (a_:=G.n) (F.tail ((As.aents (As.il []) (As.sl []) [10] O)++ [(some a3,(.cells #[(iV 0),(iV 0),(.string (⟨#[]⟩)),(.bool false)] 35 (0,0))),(some a1,(.cells #[(iV G.tag),(iV G.n),(.string G.s),(.bool G.one)] 35 (0,0)))])) ⟨_,_,_,rfl,ap,a4,b3⟩ hSl;rw [c3] at c5;refine id (Co func126 C J (c5) ?_);rintro e w ⟨rfl,b1⟩;refine⟨_,rfl,fun a C=>?_⟩;have F:=F.frameR ((As.aents (As.il []) (As.sl []) [10] O)++ [(some a3,(.cells #[(iV 0),(iV 0),(.string (⟨#[]⟩)),(.bool false)] 35 (0,0))),(some a1,(.cells #[(iV G.tag),(iV G.n),(.string G.s),(.bool G.one)] 35 (0,0)))]) b1;have F:=Step.perm F (List.Perm.of_eq (List.append_assoc (As.aents (As.il []) (As.sl []) [10] O) [(some a3,(.cells #[(iV 0),(iV 0),(.string (⟨#[]⟩)),(.bool false)] 35 (0,0))),(some a1,(.cells #[(iV G.tag),(iV G.n),(.string G.s),(.bool G.one)] 35 (0,0)))] [(some r,(.cells #[(iV ((S.length: Nat): Int)),(.slice A xs.length c)] 133 (0,0))),eb]));exact As.qdone (s:=⟨X,O⟩) (Le.refl _) C F J
     ·refine As.Qx1 3 J fun a w X O a2 Y F C Z a0=>?_;obtain⟨_,C,rfl⟩:=Z.g C 7 J;have T:=F;exact az (b:=bg) (o:=0) (j:=a8) T131.und T140 cm C J J j0 j0 J fun a C=>As.ql C T
     ·refine As.Qx1 8 J fun a w X O a2 Y F C Z a0=>?_;have T:=F;have F:=Step.dropN _ _ F;exact am (vs:= [(iV ((V.b.1: Nat): Int)),(iV V.b.2.kind),(.string V.b.2.nm),(.slice V.A V.b.2.words.length V.c),(.bool V.b.2.bound),(.slice V.A2 V.b.2.hooks.length V.c2)]) T140 J C J (F.blkL 3 (b:=bg) (o:=.cells cg 140 (0,0)) (by rw [<- cx];rfl)) J ct J fun a C=>As.ql C T
     ·refine As.Qx J fun a w X O a2 Y F C Z a0=>?_;have F: Step w0 H [(some r,.cells #[.int .i64 (S.length: Int),.slice A xs.length c] 133 (0,0)),eb] w X ((As.aents (As.il []) (As.sl []) [] O++As.aents (As.il []) (As.sl []) [] O++ [(some a3,(.cells #[(iV 0),(iV 0),(.string (⟨#[]⟩)),(.bool false)] 35 (0,0))),(some a1,(.cells #[(iV G.tag),(iV G.n),(.string G.s),(.bool G.one)] 35 (0,0))),(some r,(.cells #[(iV ((S.length: Nat): Int)),(.slice A xs.length c)] 133 (0,0))),eb])):=As.opn (s:=⟨X,O⟩) [] [10] [] [] J (As.con0 Y J) F;refine aB (cs:= #[(iV 0),(iV 0),(.string (⟨#[]⟩)),(.slice none 0 0),(.bool false),(.slice none 0 0)]) T140 F C J J fun b6 a w F C=>?_;exact As.qown (i:=10) (dst:=some 7) (s:=⟨X,O⟩) (E:= [(some b6,(.cells #[(iV 0),(iV 0),(.string (⟨#[]⟩)),(.slice none 0 0),(.bool false),(.slice none 0 0)] 140 (0,0)))]) [] [10] [] J J Y (Le.refl _) C.dfr (As.has_at C) F As.con1 ⟨b6,rfl,rfl⟩
     obtain⟨bx,O⟩:=bw;have dj: Le a9 bx:=a0.le;dsimp only at b2 F;obtain⟨_,C,rfl⟩:=As.Dd C b2 9 J;obtain⟨_,C,b6,bu,rfl⟩:=As.Dd C b2 10 J;have bu: O 10=some [(some b6,(.cells #[(iV 0),(iV 0),(.string (⟨#[]⟩)),(.slice none 0 0),(.bool false),(.slice none 0 0)] 140 (0,0)))]:=bu;have F: Step w0 H [(some r,.cells #[.int .i64 (S.length: Int),.slice A xs.length c] 133 (0,0)),eb] w bx [(some b6,(.cells #[(iV 0),(iV 0),(.string (⟨#[]⟩)),(.slice none 0 0),(.bool false),(.slice none 0 0)] 140 (0,0))),(some a3,(.cells #[(iV 0),(iV 0),(.string (⟨#[]⟩)),(.bool false)] 35 (0,0))),(some a1,(.cells #[(iV G.tag),(iV G.n),(.string G.s),(.bool G.one)] 35 (0,0))),(some r,(.cells #[(iV ((S.length: Nat): Int)),(.slice A xs.length c)] 133 (0,0))),eb]:=by
      have ay:=F;unfold As.aents at ay;simp only [List.flatMap_cons,List.flatMap_nil,As.conE,show (As.sl []) 10=none from rfl,bu,Option.isSome_some,Option.getD_some,cond_true,cond_false,List.cons_append,List.nil_append,List.append_nil] at ay;exact ay
     refine any1 (i:=11) j3 J J (al (cs':= #[(iV ((V.b.1: Nat): Int)),(iV V.b.2.kind),(.string V.b.2.nm),(.slice V.A V.b.2.words.length V.c),(.bool V.b.2.bound),(.slice V.A2 V.b.2.hooks.length V.c2)]) T140 F (i:=0) J C J J J J J J fun a w F C=>?_);refine any0 j3 ?_;refine aa (wp_seq (wp_seq ?_));have b9: V.b=(cc,PB.var [] c7):=by rw [Option.some.inj (c9.symm.trans bt)];exact c1
     have bo: V.b.2.bound=false:=by rw [b9];rfl
     have bp: V.b.2.words= []:=by rw [b9];rfl
     refine ab (lin J (ac (f:=4) (o2:=4) T140 T4 J J J J C J J fun a C=>?_));refine lin J (ae (v:=(.bool V.b.2.bound)) T4 J C J (F.blkL 0 J) J J fun a C=>?_);rw [bo] at C;refine lin J (aK C J J fun a C=>?_);refine wpList_nil (aa (ao C J (wp_seq (ab (lin J (am (vs:= [(iV G.tag),(iV G.n),(.string G.s),(.bool G.one)]) T35 J C J (F.blkL 2 J) J (aj J) J fun a C=>?_))))));refine lin J (al (cs':= #[(iV G.tag),(iV G.n),(.string G.s),(.bool G.one)]) T35 F (i:=1) J C J J J J J J fun a w F C=>?_);refine Ls J C fun a C=>?_;refine wpList_nil (aa (wp_ret (af (av (af (af (av (af (retA1 (i:=1) (cs:= #[(iV G.tag),(iV G.n),(.string G.s),(.bool G.one)]) J T35 J F J C J J J ?_)))))))));have F:=F.fd [0,0,0] J;obtain⟨cd,bc⟩: ∃ m,S.length+1 - k=m+1:=⟨S.length - k,by omega⟩;rw [bc] at a5;rw [der_end b4 b8] at a5;rw [bj,<- a5];exact⟨_,rfl,F⟩
    ·obtain⟨M,bh,dc,ch,ca,d5,cy,cu⟩:=Row.getG RbV.len j2 ap (j:=a8) j0;have cn:(A: Option Addr)=some ⟨bh,0,none⟩:=by injection d5
     obtain⟨br,dq⟩:=AllRv.at_ a4 ca;have cp:=F;refine As.c_draw_head (ini:=(As.il [])) (sup:=(As.sl [])) (als:= [10]) (s0:=⟨a9,fun _=>none⟩) (L:= [(some a3,(.cells #[(iV 0),(iV 0),(.string (⟨#[]⟩)),(.bool false)] 35 (0,0))),(some a1,(.cells #[(iV G.tag),(iV G.n),(.string G.s),(.bool G.one)] 35 (0,0))),(some r,(.cells #[(iV ((S.length: Nat): Int)),(.slice A xs.length c)] 133 (0,0))),eb]) (N:=60) (E:= bz) 11 [FcV (pB r),FcV (pB r),FcV (.pointer (some ⟨r,1,none⟩)),FcV (.slice A xs.length c),FcV (pB r),FcV (.pointer (some ⟨a1,1,none⟩)),FcV (iV G.n),FcV (iV ((a8: Nat): Int)),FcV (.pointer (some ⟨bh,0+a8 * 6,none⟩)),FcV (.agg #[(iV ((M.b.1: Nat): Int)),(iV M.b.2.kind),(.string M.b.2.nm),(.slice M.A M.b.2.words.length M.c),(.bool M.b.2.bound),(.slice M.A2 M.b.2.hooks.length M.c2)]),fun s v=> ∃ b,s.ax 10=some [(some b,(.cells #[(iV 0),(iV 0),(.string (⟨#[]⟩)),(.slice none 0 0),(.bool false),(.slice none 0 0)] 140 (0,0)))]/\v=.pointer (some ⟨b,0,none⟩)] mixed J J J (As.M1 (As.M1 (As.M1 (As.M1 (As.M1 (As.M1 (As.M1 (As.M1 (As.M1 (As.M1 (As.Monos.cons (fun _ _ _ hl ⟨b,h,e⟩=>⟨b,hl.get h,e⟩) (As.Monos.nil)))))))))))) (fun _=>rfl) F (C.pk J) (As.QuietsI.c4 ?_ ?_ ?_ ?_ (As.QuietsI.c4 ?_ ?_ ?_ ?_ (As.QuietsI.c2 ?_ ?_ (As.QuietsI.cons ?_ (As.QuietsI.nil))))) (fun ci a w bw a0 F C b2=>?_)
     ·refine As.Qx J fun a w X O a2 Y F C Z a0=>?_;have T:=F;exact aq C J J fun a C=>As.ql C T
     ·refine As.Qx1 0 J fun a w X O a2 Y F C Z a0=>?_;have T:=F;exact aE C J J fun a C=>As.ql C T
     ·refine As.Qx1 1 J fun a w X O a2 Y F C Z a0=>?_;have T:=F;exact ac (f:=1) (o2:=1) T133 T131 J J J J C J J fun a C=>As.ql C T
     ·refine As.Qx1 2 J fun a w X O a2 Y F C Z a0=>?_;have T:=F;have F:=Step.dropN _ _ F;exact ae (v:=(.slice A xs.length c)) T131 J C J (F.blkL 2 J) J J fun a C=>As.ql C T
     ·refine As.Qx J fun a w X O a2 Y F C Z a0=>?_;have T:=F;exact aq C J J fun a C=>As.ql C T
     ·refine As.Qx J fun a w X O a2 Y F C Z a0=>?_;have T:=F;exact ac (f:=1) (o2:=1) T35 T3 J J J J C J J fun a C=>As.ql C T
     ·refine As.Qx1 5 J fun a w X O a2 Y F C Z a0=>?_;have T:=F;have F:=Step.dropN _ _ F;exact ae (v:=(iV G.n)) T3 J C J (F.blkL 1 J) J J fun a C=>As.ql C T
     ·refine As.Qx1 4 J fun a w X O a2 Y F C Z a0=>?_;obtain⟨_,C,rfl⟩:=Z.g C 6 J;have a4:=a4.mono a2;have T:=F;have cq:=Step.dropN _ _ F;have F:=Step.perm F (List.Perm.of_eq (List.append_assoc (As.aents (As.il []) (As.sl []) [10] O) [(some a3,(.cells #[(iV 0),(iV 0),(.string (⟨#[]⟩)),(.bool false)] 35 (0,0))),(some a1,(.cells #[(iV G.tag),(iV G.n),(.string G.s),(.bool G.one)] 35 (0,0)))] [(some r,(.cells #[(iV ((S.length: Nat): Int)),(.slice A xs.length c)] 133 (0,0))),eb]).symm);have c6:=dB (a_:=G.n) (F.tail ((As.aents (As.il []) (As.sl []) [10] O)++ [(some a3,(.cells #[(iV 0),(iV 0),(.string (⟨#[]⟩)),(.bool false)] 35 (0,0))),(some a1,(.cells #[(iV G.tag),(iV G.n),(.string G.s),(.bool G.one)] 35 (0,0)))])) ⟨_,_,_,rfl,ap,a4,b3⟩ hSl;rw [c3] at c6;refine id (Co func126 C J (c6) ?_);rintro e w ⟨rfl,b1⟩;refine⟨_,rfl,fun a C=>?_⟩;have F:=F.frameR ((As.aents (As.il []) (As.sl []) [10] O)++ [(some a3,(.cells #[(iV 0),(iV 0),(.string (⟨#[]⟩)),(.bool false)] 35 (0,0))),(some a1,(.cells #[(iV G.tag),(iV G.n),(.string G.s),(.bool G.one)] 35 (0,0)))]) b1;have F:=Step.perm F (List.Perm.of_eq (List.append_assoc (As.aents (As.il []) (As.sl []) [10] O) [(some a3,(.cells #[(iV 0),(iV 0),(.string (⟨#[]⟩)),(.bool false)] 35 (0,0))),(some a1,(.cells #[(iV G.tag),(iV G.n),(.string G.s),(.bool G.one)] 35 (0,0)))] [(some r,(.cells #[(iV ((S.length: Nat): Int)),(.slice A xs.length c)] 133 (0,0))),eb]));exact As.qdone (s:=⟨X,O⟩) (Le.refl _) C F J
     ·refine As.Qx1 3 J fun a w X O a2 Y F C Z a0=>?_;obtain⟨_,C,rfl⟩:=Z.g C 7 J;have T:=F;exact az (b:=bh) (o:=0) (j:=a8) T131.und T140 cn C J J j0 j0 J fun a C=>As.ql C T
     ·refine As.Qx1 8 J fun a w X O a2 Y F C Z a0=>?_;have T:=F;have F:=Step.dropN _ _ F;exact am (vs:= [(iV ((M.b.1: Nat): Int)),(iV M.b.2.kind),(.string M.b.2.nm),(.slice M.A M.b.2.words.length M.c),(.bool M.b.2.bound),(.slice M.A2 M.b.2.hooks.length M.c2)]) T140 J C J (F.blkL 3 (b:=bh) (o:=.cells ch 140 (0,0)) (by rw [<- cy];rfl)) J cu J fun a C=>As.ql C T
     ·refine As.Qx J fun a w X O a2 Y F C Z a0=>?_;have F: Step w0 H [(some r,.cells #[.int .i64 (S.length: Int),.slice A xs.length c] 133 (0,0)),eb] w X ((As.aents (As.il []) (As.sl []) [] O++As.aents (As.il []) (As.sl []) [] O++ [(some a3,(.cells #[(iV 0),(iV 0),(.string (⟨#[]⟩)),(.bool false)] 35 (0,0))),(some a1,(.cells #[(iV G.tag),(iV G.n),(.string G.s),(.bool G.one)] 35 (0,0))),(some r,(.cells #[(iV ((S.length: Nat): Int)),(.slice A xs.length c)] 133 (0,0))),eb])):=As.opn (s:=⟨X,O⟩) [] [10] [] [] J (As.con0 Y J) F;refine aB (cs:= #[(iV 0),(iV 0),(.string (⟨#[]⟩)),(.slice none 0 0),(.bool false),(.slice none 0 0)]) T140 F C J J fun ah a w F C=>?_;exact As.qown (i:=10) (dst:=some 7) (s:=⟨X,O⟩) (E:= [(some ah,(.cells #[(iV 0),(iV 0),(.string (⟨#[]⟩)),(.slice none 0 0),(.bool false),(.slice none 0 0)] 140 (0,0)))]) [] [10] [] J J Y (Le.refl _) C.dfr (As.has_at C) F As.con1 ⟨ah,rfl,rfl⟩
     obtain⟨b5,O⟩:=bw;have ba: Le a9 b5:=a0.le;dsimp only at b2 F;have a4:=a4.mono ba;have br:=br.mono ba;obtain⟨_,C,rfl⟩:=As.Dd C b2 9 J;obtain⟨_,C,ah,bv,rfl⟩:=As.Dd C b2 10 J;have bv: O 10=some [(some ah,(.cells #[(iV 0),(iV 0),(.string (⟨#[]⟩)),(.slice none 0 0),(.bool false),(.slice none 0 0)] 140 (0,0)))]:=bv;have F: Step w0 H [(some r,.cells #[.int .i64 (S.length: Int),.slice A xs.length c] 133 (0,0)),eb] w b5 [(some ah,(.cells #[(iV 0),(iV 0),(.string (⟨#[]⟩)),(.slice none 0 0),(.bool false),(.slice none 0 0)] 140 (0,0))),(some a3,(.cells #[(iV 0),(iV 0),(.string (⟨#[]⟩)),(.bool false)] 35 (0,0))),(some a1,(.cells #[(iV G.tag),(iV G.n),(.string G.s),(.bool G.one)] 35 (0,0))),(some r,(.cells #[(iV ((S.length: Nat): Int)),(.slice A xs.length c)] 133 (0,0))),eb]:=by
      have ay:=F;unfold As.aents at ay;simp only [List.flatMap_cons,List.flatMap_nil,As.conE,show (As.sl []) 10=none from rfl,bv,Option.isSome_some,Option.getD_some,cond_true,cond_false,List.cons_append,List.nil_append,List.append_nil] at ay;exact ay
     refine any1 (i:=11) j3 J J (al (cs':= #[(iV ((M.b.1: Nat): Int)),(iV M.b.2.kind),(.string M.b.2.nm),(.slice M.A M.b.2.words.length M.c),(.bool M.b.2.bound),(.slice M.A2 M.b.2.hooks.length M.c2)]) T140 F (i:=0) J C J J J J J J fun a w F C=>?_);refine any0 j3 ?_;refine aa (wp_seq (wp_seq ?_));have b9: M.b=(cc,PB.var (I::bl) c7):=by rw [Option.some.inj (ca.symm.trans bt)];exact c1
     have bo: M.b.2.bound=true:=by rw [b9];rfl
     have bp: M.b.2.words=(I::bl):=by rw [b9];rfl
     have c8:=br;rw [bp] at c8;have du:(I::bl).length=bl.length+1:=rfl;refine ab (lin J (ac (f:=4) (o2:=4) T140 T4 J J J J C J J fun a C=>?_));refine lin J (ae (v:=(.bool M.b.2.bound)) T4 J C J (F.blkL 0 J) J J fun a C=>?_);rw [bo] at C;refine lin J (aK C J J fun a C=>?_);refine wpList_nil (aa (ag C J (wp_skip (aa (wp_seq (ab (lin J (ac (f:=3) (o2:=3) T140 T37 J J J J C J J fun a C=>?_))))))));refine lin J (ae (v:=(.slice M.A M.b.2.words.length M.c)) T37 J C J (F.blkL 0 J) J J fun a C=>?_);rw [bp] at C;obtain⟨da,ce,d8,dg,df,dh,d6,co,cr,cv⟩:=c8.get (j:=0) (by first | omega |(simp;done) |(simp;omega));refine lin J (az (b:=ce) (o:=d8) (j:=0) T37.und T35 co C J J j0 j0 J fun a C=>?_);obtain rfl: I=da:=Option.some.inj d6;refine lin J (am (vs:= [(iV I.tag),(iV I.n),(.string I.s),(.bool I.one)]) T35 J C J (F.blkH cr) J cv J fun a C=>?_);refine lin J (aB (cs:= #[(iV 0),(iV 0),(.string (⟨#[]⟩)),(.bool false)]) T35 F C J J fun c0 a w F C=>?_);refine lin J (al (cs':= #[(iV I.tag),(iV I.n),(.string I.s),(.bool I.one)]) T35 F (i:=0) J C J J J J J J fun a w F C=>?_);refine wpList_nil (aa (wp_seq (wp_seq (ab (Lm J C fun a C=>?_)))));refine lin J (am (vs:= [(iV I.tag),(iV I.n),(.string I.s),(.bool I.one)]) T35 J C J (F.blkL 0 J) J (aj J) J fun a C=>?_);have d1:=dW (x:=I) (F.tail [(some c0,(.cells #[(iV I.tag),(iV I.n),(.string I.s),(.bool I.one)] 35 (0,0))),(some ah,(.cells #[(iV ((M.b.1: Nat): Int)),(iV M.b.2.kind),(.string M.b.2.nm),(.slice M.A M.b.2.words.length M.c),(.bool M.b.2.bound),(.slice M.A2 M.b.2.hooks.length M.c2)] 140 (0,0))),(some a3,(.cells #[(iV 0),(iV 0),(.string (⟨#[]⟩)),(.bool false)] 35 (0,0))),(some a1,(.cells #[(iV G.tag),(iV G.n),(.string G.s),(.bool G.one)] 35 (0,0)))]) ⟨_,_,_,rfl,ap,a4,b3⟩ hSl (hwz _ _ d0 _ List.mem_cons_self);refine lin J (Co func125 C J (d1) ?_);rintro e w ⟨rfl,b1⟩;refine⟨_,rfl,fun a C=>?_⟩;have F:=F.frameR [(some c0,(.cells #[(iV I.tag),(iV I.n),(.string I.s),(.bool I.one)] 35 (0,0))),(some ah,(.cells #[(iV ((M.b.1: Nat): Int)),(iV M.b.2.kind),(.string M.b.2.nm),(.slice M.A M.b.2.words.length M.c),(.bool M.b.2.bound),(.slice M.A2 M.b.2.hooks.length M.c2)] 140 (0,0))),(some a3,(.cells #[(iV 0),(iV 0),(.string (⟨#[]⟩)),(.bool false)] 35 (0,0))),(some a1,(.cells #[(iV G.tag),(iV G.n),(.string G.s),(.bool G.one)] 35 (0,0)))] b1;refine lin J (aK C J J fun a C=>?_);refine wpList_nil (aa (au (t:=47) C J (fun b7 C=>?_) (fun b7 C=>?_)))
     ·refine ao C J (wp_seq (ab (lin J (aA (vs:= []) (cells:= [(iV 0),(iV 0),(.string (⟨#[]⟩)),(.bool false)]) T35 PL35 C (C.evp J) J J fun a C=>?_))));refine lin J (al (cs':= #[(iV 0),(iV 0),(.string (⟨#[]⟩)),(.bool false)]) T35 F (i:=2) J C J J J J J J fun a w F C=>?_);refine Ls J C fun a C=>?_;refine wpList_nil (aa (wp_ret (af (av (af (af (av (af (retA1 (i:=2) (cs:= #[(iV 0),(iV 0),(.string (⟨#[]⟩)),(.bool false)]) J T35 J F J C J J J ?_)))))))));have F:=F.fd [0,0,0,0] J;obtain⟨cd,bc⟩: ∃ m,S.length+1 - k=m+1:=⟨S.length - k,by omega⟩;rw [bc] at a5;rw [der_bad b4 b8 (by simpa using b7)] at a5;rw [bj,<- a5];exact⟨_,rfl,F⟩
     ·refine ag C J (wp_skip (aa (wp_seq (wp_seq (ab (lin J (am (vs:= [(iV I.tag),(iV I.n),(.string I.s),(.bool I.one)]) T35 J C J (F.blkL 0 J) J (aj J) J fun a C=>?_)))))));have d2:=c_rReference (x:=I) F.inv.nil;refine lin J (Cs func127 C J (d2) F fun a w C F=>?_);refine wpList_nil (aa (au (t:=50) C J (fun bi C=>?_) (fun bi C=>?_)))
      ·refine ao C J (ab (lin J (ac (f:=3) (o2:=3) T35 T4 J J J J C J J fun a C=>?_)));refine lin J (ae (v:=(.bool I.one)) T4 J C J (F.blkL 0 J) J J fun a C=>?_);refine Lm J C fun a C=>?_;refine au (t:=53) C J (fun cj C=>?_) (fun cj C=>?_)
       ·refine ad J C J J J (ac (f:=3) (o2:=3) T35 T4 J J J J C J J fun a C=>?_);refine ad J C J J J (ae (v:=(.bool G.one)) T4 J C J (F.blkL 3 J) J J fun a C=>?_);refine lin J (an C J J J fun a C=>?_);refine lin J (ac (f:=3) (o2:=3) T35 T4 J J J J C J J fun a C=>?_);refine lin J (al (cs':= #[(iV I.tag),(iV I.n),(.string I.s),(.bool G.one)]) T4 F (i:=0) J C J J J J J J fun a w F C=>?_);refine wpList_nil (aa (ab (lin J (am (vs:= [(iV I.tag),(iV I.n),(.string I.s),(.bool G.one)]) T35 J C J (F.blkL 0 J) J (aj J) J fun a C=>?_))));refine lin J (al (cs':= #[(iV I.tag),(iV I.n),(.string I.s),(.bool G.one)]) T35 F (i:=3) J C J J J J J J fun a w F C=>?_);refine wpList_nil (ar (aa (ab (Lm J C fun a C=>?_))));refine lin J (aF (i:=((k: Nat): Int)) (j:=1) C J J J j0 fun a C=>?_);refine Ls J C fun a C=>?_;refine wpList_nil (aa (?_));have a7: wordS S I=true:=by simpa using b7
        have bf: nxtW G I=⟨I.tag,I.n,I.s,I.one&&G.one⟩:=by unfold nxtW;rw [if_pos (by simpa using bi)]
        have a6:(Wd.mk I.tag I.n I.s G.one)=nxtW G I:=by rw [bf];simp [*]
        have F:=F.fd [0,0] J;exact⟨S.length+1 - (k+1),by omega,b5,(k+1),(Wd.mk I.tag I.n I.s G.one),(bk.trans (ba)),rfl,C.pk J,F,j0,(by rw [a6];exact ee a7),(by rw [a6,<- a5,show S.length+1 - k=(S.length+1 - (k+1))+1 by omega,dX b4 b8 a7])⟩
       ·refine Lf J C J J fun a C=>?_;refine Lf J C J J fun a C=>?_;refine lin J (ak C J J J fun a C=>?_);refine lin J (ac (f:=3) (o2:=3) T35 T4 J J J J C J J fun a C=>?_);refine lin J (al (cs':= #[(iV I.tag),(iV I.n),(.string I.s),(.bool false)]) T4 F (i:=0) J C J J J J J J fun a w F C=>?_);refine wpList_nil (aa (ab (lin J (am (vs:= [(iV I.tag),(iV I.n),(.string I.s),(.bool false)]) T35 J C J (F.blkL 0 J) J (aj J) J fun a C=>?_))));refine lin J (al (cs':= #[(iV I.tag),(iV I.n),(.string I.s),(.bool false)]) T35 F (i:=3) J C J J J J J J fun a w F C=>?_);refine wpList_nil (ar (aa (ab (Lm J C fun a C=>?_))));refine lin J (aF (i:=((k: Nat): Int)) (j:=1) C J J J j0 fun a C=>?_);refine Ls J C fun a C=>?_;refine wpList_nil (aa (?_));have a7: wordS S I=true:=by simpa using b7
        have bf: nxtW G I=⟨I.tag,I.n,I.s,I.one&&G.one⟩:=by unfold nxtW;rw [if_pos (by simpa using bi)]
        have a6:(Wd.mk I.tag I.n I.s false)=nxtW G I:=by rw [bf];simp [*]
        have F:=F.fd [0,0] J;exact⟨S.length+1 - (k+1),by omega,b5,(k+1),(Wd.mk I.tag I.n I.s false),(bk.trans (ba)),rfl,C.pk J,F,j0,(by rw [a6];exact ee a7),(by rw [a6,<- a5,show S.length+1 - k=(S.length+1 - (k+1))+1 by omega,dX b4 b8 a7])⟩
      ·refine ag C J (wp_skip (aa (ab (lin J (am (vs:= [(iV I.tag),(iV I.n),(.string I.s),(.bool I.one)]) T35 J C J (F.blkL 0 J) J (aj J) J fun a C=>?_)))));refine lin J (al (cs':= #[(iV I.tag),(iV I.n),(.string I.s),(.bool I.one)]) T35 F (i:=3) J C J J J J J J fun a w F C=>?_);refine wpList_nil (ar (aa (ab (Lm J C fun a C=>?_))));refine lin J (aF (i:=((k: Nat): Int)) (j:=1) C J J J j0 fun a C=>?_);refine Ls J C fun a C=>?_;refine wpList_nil (aa (?_));have a7: wordS S I=true:=by simpa using b7
       have bf: nxtW G I=I:=by unfold nxtW;rw [if_neg (by simpa using bi)]
       have a6:(Wd.mk I.tag I.n I.s I.one)=nxtW G I:=by rw [bf]
       have F:=F.fd [0,0] J;exact⟨S.length+1 - (k+1),by omega,b5,(k+1),(Wd.mk I.tag I.n I.s I.one),(bk.trans (ba)),rfl,C.pk J,F,j0,(by rw [a6];exact ee a7),(by rw [a6,<- a5,show S.length+1 - k=(S.length+1 - (k+1))+1 by omega,dX b4 b8 a7])⟩
  ·refine ag C J (wp_exit (aw (aw (aH (aa (wp_seq (ab (lin J (aA (vs:= []) (cells:= [(iV 0),(iV 0),(.string (⟨#[]⟩)),(.bool false)]) T35 PL35 C (C.evp J) J J fun a C=>?_)))))))));refine lin J (al (cs':= #[(iV 0),(iV 0),(.string (⟨#[]⟩)),(.bool false)]) T35 F (i:=0) J C J J J J J J fun a w F C=>?_);refine Ls J C fun a C=>?_;refine wpList_nil (aa (wp_ret (retA1 (i:=0) (cs:= #[(iV 0),(iV 0),(.string (⟨#[]⟩)),(.bool false)]) J T35 J F J C J J J ?_)));have F:=F.fd [0,0] J;obtain rfl: k=S.length+1:=by omega
   rw [Nat.sub_self,derS] at a5;rw [bj,<- a5];exact⟨_,rfl,F⟩
end Go.Vk.Tryz
namespace Go.Vk
theorem pig: ∀(n: Nat) (f: Nat->Nat),(∀ i,i<=n->f i < n)->∃ i j,i < j/\j<=n/\f i=f j
 | 0,f,h=>absurd (h 0 (Nat.le_refl _)) j0
 | n+1,f,h=>by
  by_cases he: ∃ i,i<=n/\f i=f (n+1)
  ·obtain⟨i,h1,h2⟩:=he;exact⟨i,n+1,by omega,Nat.le_refl _,h2⟩
  ·have hg: ∀ i,i<=n->(if f i=n then f (n+1) else f i) < n:=fun i hi=>by
    have h1:=h i j0;have h2:=h (n+1) (Nat.le_refl _)
    by_cases h3: f i=n
    ·rw [if_pos h3];have h4: f i≠f (n+1):=fun e=>he ⟨i,hi,e⟩;omega
    ·rw [if_neg h3];omega
   obtain⟨i,j,h1,h2,h3⟩:=pig n (fun i=>if f i=n then f (n+1) else f i) hg
   by_cases h4: f i=n
   ·by_cases h5: f j=n
    ·exact⟨i,j,h1,by omega,by omega⟩
    ·rw [if_pos h4,if_neg h5] at h3;exact absurd ⟨j,h2,h3.symm⟩ he
   ·by_cases h5: f j=n
    ·rw [if_neg h4,if_pos h5] at h3;exact absurd ⟨i,by omega,h3⟩ he
    ·rw [if_neg h4,if_neg h5] at h3;exact⟨i,j,h1,by omega,h3⟩
def chW (S: PS): Nat->Wd->Option Wd
 | 0,w=>some w
 | k+1,w=>match atS S w with
  | some (.var (x::_) _)=>chW S k (nxtW w x)
  | _=>none
def Sim (x y: Wd): Prop:=x.tag=y.tag/\x.n=y.n/\x.s=y.s
section
variable {S: PS}
theorem Sim.at_ {x y: Wd} (h: Sim x y): atS S x=atS S y:=by
 obtain⟨h1,h2,h3⟩:=h;unfold atS atG;rw [h1,h2,h3]
theorem Sim.nxt {x y: Wd} (z: Wd): Sim (nxtW x z) (nxtW y z):=by
 unfold nxtW
 split
 ·exact⟨rfl,rfl,rfl⟩
 ·exact⟨rfl,rfl,rfl⟩
theorem ch_sim: ∀(k: Nat) (x y: Wd),Sim x y->(chW S k x=none/\chW S k y=none)\/∃ x' y',chW S k x=some x'/\chW S k y=some y'/\Sim x' y'
 | 0,x,y,h=>.inr ⟨x,y,rfl,rfl,h⟩
 | k+1,x,y,h=>by
  rw [chW,chW,h.at_]
  split
  ·exact ch_sim k _ _ (Sim.nxt _)
  ·exact .inl ⟨rfl,rfl⟩
theorem fD: ∀(i k: Nat) (w: Wd),chW S (i+k) w=(chW S i w).bind (chW S k)
 | 0,k,w=>by rw [Nat.zero_add];rfl
 | i+1,k,w=>by
  rw [show i+1+k=(i+k)+1 by omega,chW,chW]
  split
  ·exact fD i k _
  ·rfl
theorem at_word {w: Wd} {b: PB} (h: atS S w=some b): wordS S w=true:=by
 have ht:=(aD h).2.2.2.2;have hr: w.tag=4\/w.tag=5\/w.tag=6:=by cases b <;> simp [PB.tag] at ht <;> omega
 unfold wordS refB;rw [if_neg j0,if_neg j0,if_neg j0,h]
 rcases hr with hr | hr | hr <;> rw [hr] <;> rfl
theorem ch_far {w y: Wd} (h: chW S (S.length+1) w=some y): wordS S y=true:=by
 have hs: ∀ i,i<=S.length->∃ v x ys hk,chW S i w=some v/\atS S v=some (.var (x::ys) hk):=fun i hi=>by
  have h1: chW S (i+(S.length+1 - i)) w=some y:=by rw [show i+(S.length+1 - i)=S.length+1 by omega];exact h
  rw [fD] at h1
  cases hv: chW S i w with
  | none=>rw [hv] at h1;cases h1
  | some v =>
   rw [hv,show S.length+1 - i=(S.length - i)+1 by omega] at h1;have h2: chW S ((S.length - i)+1) v=some y:=h1;rw [chW] at h2
   split at h2
   ·rename_i x ys hk ha;exact⟨v,x,ys,hk,rfl,ha⟩
   ·cases h2
 obtain⟨i,j,h1,h2,h3⟩:=pig S.length (fun i=>match chW S i w with | some v=>v.n.toNat | none=>0) (fun i hi=>by
  obtain⟨v,x,ys,hk,h4,h5⟩:=hs i hi;rw [h4];have:=aD h5
  show v.n.toNat < S.length
  omega)
 obtain⟨v,x,ys,hk,h4,h5⟩:=hs i j0;obtain⟨v',x',ys',hk',h6,h7⟩:=hs j h2;rw [h4,h6] at h3;have h3: v.n.toNat=v'.n.toNat:=h3;have g5:=aD h5;have g7:=aD h7;have hsim: Sim v v':=⟨by rw [g5.2.2.2.2,g7.2.2.2.2];rfl,by omega,by rw [g5.2.2.1,g7.2.2.1]⟩;have h8: chW S (S.length+1 - j) v'=some y:=by
  have h9: chW S (j+(S.length+1 - j)) w=some y:=by rw [show j+(S.length+1 - j)=S.length+1 by omega];exact h
  rw [fD,h6] at h9;exact h9
 rcases ch_sim (S:=S) (S.length+1 - j) v v' hsim with ⟨_,h9⟩ |⟨x1,y1,h9,h10,h11⟩
 ·rw [h9] at h8;cases h8
 ·rw [h8] at h10;obtain rfl:=Option.some.inj h10;have h12: chW S (i+(S.length+1 - j)) w=some x1:=by rw [fD,h4];exact h9
  obtain⟨v2,x2,ys2,hk2,h13,h14⟩:=hs (i+(S.length+1 - j)) j0;rw [h12] at h13;obtain rfl:=Option.some.inj h13;exact at_word (by rw [<- h11.at_];exact h14)
def resF (S: PS) (r: Wd × Bool): Wd × Int:=if r.2=false then (Wd.zero,2) else if wordS S r.1=false then (Wd.zero,211) else (r.1,0)
theorem gc {w: Wd} (h: wordS S w=false): atS S w=none:=by
 cases ha: atS S w with
 | none=>rfl
 | some b=>rw [at_word ha] at h;cases h
theorem word_not_nxt {w x: Wd} (h: wordS S x=false): wordS S (nxtW w x)=false:=by
 unfold nxtW
 split
 ·rename_i hr
  unfold wordS at h ⊢;unfold refB at hr;simp only [Bool.or_eq_true,decide_eq_true_eq] at hr;rw [if_neg j0,if_neg j0,if_neg j0] at h;rw [if_neg (show ¬ x.tag=1 by omega),if_neg (show ¬ x.tag=2 by omega),if_neg (show ¬ x.tag=3 by omega)];exact h
 ·exact h
theorem der_fol: ∀(k: Nat) (w: Wd),wordS S w=true->derS S k w=resF S (folS S k w)\/∃ y,chW S k w=some y/\wordS S y=false
 | 0,w,_=>.inl J
 | k+1,w,hw=>by
  by_cases ht: w.tag=4
  ·have hr: refB w=true:=by unfold refB;rw [ht];rfl
   obtain⟨q,j,b,_,_,_,_,ha,htb⟩:=cP hw hr;obtain⟨to,hk,rfl⟩:=fX (b:=b) j0
   cases to with
   | nil =>
    left
    rw [der_end ht ha,folS,ha];unfold resF;simp [hw]
   | cons x ys =>
    cases hx: wordS S x with
    | true =>
     rw [dX ht ha hx,folS,chW,ha];exact der_fol k _ (ee hx)
    | false =>
     have hn:=word_not_nxt (w:=w) hx;rw [der_bad ht ha hx,folS,chW,ha]
     cases k with
     | zero=>exact .inr ⟨_,rfl,hn⟩
     | succ k =>
      left
      show _=resF S (folS S (k+1) (nxtW w x))
      rw [folS,gc hn];unfold resF;simp [hn]
  ·left
   rw [der_lit ht,folS];have: ∀ x ys hk,atS S w≠some (.var (x::ys) hk):=fun x ys hk h=>ht (aD h).2.2.2.2
   split
   ·rename_i x ys hk h;exact absurd h (this x ys hk)
   ·unfold resF;simp [hw]
theorem eX (S: PS) (w: Wd): dS S w=valueS S w:=by
 unfold dS valueS
 split
 ·rfl
 ·rename_i hw
  have hw: wordS S w=true:=by simpa using hw
  rcases der_fol (S:=S) (S.length+1) w hw with h |⟨y,h1,h2⟩
  ·rw [h];rfl
  ·rw [ch_far h1] at h2;cases h2
theorem fol_stop: ∀(k: Nat) (w x: Wd),folS S k w=(x,true)->∀ y ys hk,atS S x≠some (.var (y::ys) hk)
 | 0,w,x,h,y,ys,hk=>by rw [folS] at h;cases h
 | k+1,w,x,h,y,ys,hk=>by
  rw [folS] at h
  split at h
  ·exact fol_stop k _ x h y ys hk
  ·rename_i hn
   injection h with h1
   subst h1;exact hn y ys hk
theorem ed {w: Wd} (h:(valueS S w).2=0): wordS S (valueS S w).1=true/\((valueS S w).1.tag=4->∃ hk,atS S (valueS S w).1=some (.var [] hk)):=by
 unfold valueS at h ⊢
 split at h
 ·cases h
 ·rename_i h1
  rw [if_neg h1];dsimp only at h ⊢
  split at h
  ·cases h
  ·rename_i h2
   rw [if_neg h2]
   split at h
   ·cases h
   ·rename_i h3
    rw [if_neg h3];have h3: wordS S (followS S w).1=true:=by simpa using h3
    refine⟨h3,fun ht=>?_⟩;obtain⟨q,j,b,_,_,_,_,ha,htb⟩:=cP h3 (by unfold refB;rw [ht];rfl);obtain⟨to,hk,rfl⟩:=fX (b:=b) (by rw [<- htb];exact ht)
    cases to with
    | nil=>exact ⟨hk,ha⟩
    | cons y ys=>exact absurd ha (fol_stop (S.length+1) w _ (Prod.ext J (show (followS S w).2=true by simpa using h2)) y ys hk)
theorem tg_ok {v: Wd} (h:(tgS S v).2=0): ∃(q j: Nat) (hk: List Int),(tgS S v).1=(q: Int)/\(enB 0 S)[q]? =some (j,.var [] hk)/\S[j]? =some (some (.var [] hk))/\openS S v=(some j,0)/\(valueS S v).2=0/\(valueS S v).1.n=(j: Int):=by
 unfold tgS at h ⊢;rw [eX] at h ⊢
 by_cases h1:(valueS S v).2=0
 ·rw [if_neg (by simpa using h1)] at h ⊢
  by_cases h2:(valueS S v).1.tag=4
  ·rw [if_neg (by simpa using h2)];obtain⟨hw,hv⟩:=ed h1;obtain⟨hk,ha⟩:=hv h2;obtain⟨q,j,b,g1,g2,g3,g4,g5,g6⟩:=cP hw (by unfold refB;rw [h2];rfl);rw [ha] at g5;obtain rfl:=Option.some.inj g5;refine⟨q,j,hk,g1,g2,g4,?_,h1,g3⟩;unfold openS;dsimp only;rw [if_neg (by simpa using h1),ha,g3];rfl
  ·rw [if_pos h2] at h
   cases h
 ·rw [if_pos h1] at h;exact absurd h h1
theorem tg_no {v: Wd} (h: ¬(tgS S v).2=0): openS S v=(none,(tgS S v).2):=by
 unfold tgS at h ⊢;rw [eX] at h ⊢;unfold openS;dsimp only
 by_cases h1:(valueS S v).2=0
 ·rw [if_neg (by simpa using h1)] at h ⊢
  by_cases h2:(valueS S v).1.tag=4
  ·rw [if_neg (by simpa using h2)] at h;exact absurd J h
  ·rw [if_pos h2,if_neg (by simpa using h1)]
   split
   ·rename_i to hk ha;exact absurd (aD ha).2.2.2.2 h2
   ·rfl
 ·rw [if_pos h1,if_pos h1]
end
end Go.Vk
namespace Go.Vk
open Go.RowKit
theorem spl1 {pre c suf: List Value} {v: Value} {p d: Nat} (hp: pre.length=p) (hd: d < c.length): splice (pre++(c++suf)) (p+d) [v]=pre++(c.set d v++suf):=by
 unfold splice;rw [<- hp,List.take_length_add_append,List.length_singleton,Nat.add_assoc,List.drop_length_add_append,List.take_append_of_le_length j0,List.drop_append_of_le_length j0,List.set_eq_take_append_cons_drop,if_pos hd];simp
section
variable {xs: List RbV} {j: Nat} {x x': RbV} {b0: RB}
theorem row_split (hx: xs[j]? =some x): gfl RbV.cells xs=gfl RbV.cells (xs.take j)++(x.cells++gfl RbV.cells (xs.drop (j+1)))/\(gfl RbV.cells (xs.take j)).length=j * 6/\∀ y,gfl RbV.cells (xs.set j y)=gfl RbV.cells (xs.take j)++(y.cells++gfl RbV.cells (xs.drop (j+1))):=by
 have hj:=(List.getElem?_eq_some_iff.1 hx).1;have hx':=(List.getElem?_eq_some_iff.1 hx).2;refine⟨?_,?_,fun y=>?_⟩
 ·conv=>lhs;rw [<- List.take_append_drop j xs,List.drop_eq_getElem_cons hj,a7,bQ,hx']
 ·rw [aN RbV.len,List.length_take,Nat.min_eq_left j0]
 ·rw [List.set_eq_take_append_cons_drop,if_pos hj,a7,bQ]
theorem spl_rb1 {d: Nat} {v: Value} (hx: xs[j]? =some x) (hb: x.b=b0) (hd: d < 6) (h: x'.cells=(RbV.mk b0 x.A x.c x.A2 x.c2).cells.set d v): splice (gfl RbV.cells xs) (j * 6+d) [v]=gfl RbV.cells (xs.set j x'):=by
 obtain⟨h1,h2,h3⟩:=row_split hx;subst hb;rw [h1,h3,spl1 h2 (by rw [RbV.len];exact hd),h]
theorem spl_rb3 {d1 d2 d3: Nat} {v1 v2 v3: Value} (hx: xs[j]? =some x) (hb: x.b=b0) (hd: d1 < 6/\d2 < 6/\d3 < 6) (h: x'.cells=(((RbV.mk b0 x.A x.c x.A2 x.c2).cells.set d1 v1).set d2 v2).set d3 v3): splice (splice (splice (gfl RbV.cells xs) (j * 6+d1) [v1]) (j * 6+d2) [v2]) (j * 6+d3) [v3]=gfl RbV.cells (xs.set j x'):=by
 obtain⟨h1,h2,h3⟩:=row_split hx;subst hb;rw [h1,h3,spl1 h2 (by rw [RbV.len];exact hd.1),spl1 h2 (by rw [List.length_set,RbV.len];exact hd.2.1),spl1 h2 (by rw [List.length_set,List.length_set,RbV.len];exact hd.2.2),h]
end
section
variable {r: Nat} {S: PS} {H: PHeap} {xs: List RbV} {q j: Nat} {x: RbV} {b c: PB}
theorem RK.of {A: Option Addr} {c n N: Nat} {eb: Ent} (hl: xs.length=n) (hN: S.length=N) (hR: Row (.slice A n c) eb 140 6 n (gfl RbV.cells xs)) (hA: AllRv H xs) (hm: xs.map RbV.b=enB 0 S): RK r S H (some r,.cells #[.int .i64 (N: Int),.slice A n c] 133 (0,0)) eb:=by
 subst hl hN;exact⟨xs,A,c,rfl,hR,hA,hm⟩
theorem fN (hm: xs.map RbV.b=enB 0 S) (hq:(enB 0 S)[q]? =some (j,b)) (hx: x.b=(j,c)):(xs.set q x).map RbV.b=enB 0 (S.set j (some c)):=by
 rw [enB_put0 hq,List.map_set,hm,hx]
end
end Go.Vk
namespace Go.Vk
open Go.RowKit
theorem Row.giveI {w0 w: World} {H0 H: PHeap} {L0 L: List Ent} {A: Option Addr} {n c e: Nat} {en: Ent} {xs: List Int} (hR: Row (.slice A n c) en e 1 n (ints xs)) (hS: Step w0 H0 L0 w H (en::L)) (hm: n * 8<=140737488355328): ∃ H',Step w0 H0 L0 w H' L/\Le H H'/\RowI H' A c xs:=by
 have hn: xs.length=n:=by have:=hR.1;simpa using this
 rcases hR.2 with ⟨h1,h2,h3⟩ |⟨b,cap,cur,h1,h2,h3,h4,h5,h6⟩
 ·injection h1 with ha hb hc
  subst ha hc;have: xs= []:=List.eq_nil_of_length_eq_zero j0;subst this;exact⟨H,hS.drop,Le.refl _,RowI.nil _⟩
 ·injection h1 with ha hb hc
  subst ha hc h2;obtain⟨h7,h8⟩:=hS.release;refine⟨_,h7,h8,by simp;omega,by simp;omega,b,0,e,cur,(0,0),fun _=>⟨rfl,PHeap.put_at _ _ _⟩,fun j u hj=>?_⟩;rw [Nat.zero_add];have hjl: j < n:=by have:=(List.getElem?_eq_some_iff.1 hj).1;simp at this;omega
  rw [<- h6,List.getElem?_take,if_pos j0] at hj;simpa using hj
end Go.Vk
namespace Go.Vk.Tryz
open Go.RowKit
theorem c_rin {w0: World} {H: PHeap} (hI: Inv w0 H []) {A: Option Addr} {c: Nat} {xs: List Int} {g_: Int} (hr: RdI w0 A c xs) (hl: xs.length<=100000): Calls prog 129 #[(.slice A xs.length c),(iV g_)] w0 (Rs w0 H (.bool (xs.contains g_))):=by
 have F:=Step.refl hI;refine enter [(.slice A xs.length c),(iV g_)] func129 J ntmps129 J fun a C=>?_;refine wp_seq (ab (Ls J C fun a C=>?_));refine wpList_nil (aa (wp_seq (wp_seq (ab (Ls J C fun a C=>?_)))));refine wpList_nil (aa (wp_block (aL (fun a3 a w=> ∃(k: Nat),a3=xs.length - k/\Has [] a 18 [(0,(.slice A xs.length c)),(1,(iV g_)),(5,(iV ((k: Nat): Int)))]/\Step w0 H [] w H []/\(k<=xs.length)/\(∀(j: Nat) (y: Int),j < k->xs[j]? =some y->¬ y=g_)) _ ⟨0,rfl,C.pk J,F,j0,(fun j y h=>by omega)⟩ ?_)));intro ac a w a2;obtain⟨k,a9,C,F,hk,T⟩:=a2;refine wp_seq (wp_seq (ab (Lm J C fun a C=>?_)));refine Lm J C fun a C=>?_;refine lin J (aI T26.und C J J fun a C=>?_);refine lin J (aQ (i:=((k: Nat): Int)) (j:=((xs.length: Nat): Int)) C J J J fun a C=>?_);refine wpList_nil (aa (ai (t:=9) C J (fun h2 C=>?_) (fun h2 C=>?_)))
 ·refine ao C J (wp_skip (aa (wp_seq (wp_block (wp_seq (ab (Lm J C fun a C=>?_)))))));refine Lm J C fun a C=>?_;obtain⟨O,X,a4,a6,a5,a7,V,Z,a0,a1⟩:=hr.get (j:=k) j0;refine lin J (az (b:=X) (o:=a4) (j:=k) T26.und T3 Z C J J j0 j0 J fun a C=>?_);refine lin J (ae (v:=(iV O)) T3 J C J (F.keep0 _ _ a0) (by rw [Nat.mul_one];exact a1) J fun a C=>?_);refine Lm J C fun a C=>?_;refine lin J (aJ (i:=O) (j:=g_) C J J J fun a C=>?_);refine wpList_nil (aa (ai (t:=17) C J (fun G C=>?_) (fun G C=>?_)))
  ·refine ao C J (wp_seq (ab (Ls J C fun a C=>?_)));refine wpList_nil (aa (wp_ret (av (af (af (av (af (ret1 J C J ?_))))))));rw [show xs.contains g_=true from List.contains_iff_mem.2 (by rw [<- show O=g_ from G];exact List.mem_of_getElem? V)];exact⟨rfl,F.plain⟩
  ·refine ag C J (wp_skip (ar (aa (ab (Lm J C fun a C=>?_)))));refine lin J (aF (i:=((k: Nat): Int)) (j:=1) C J J J j0 fun a C=>?_);refine Ls J C fun a C=>?_;refine wpList_nil (aa (?_));exact⟨xs.length - (k+1),by omega,(k+1),rfl,C.pk J,F,j0,(fun j y I M=>by
     by_cases Y: j=k
     ·subst Y;rw [V] at M;obtain rfl:=Option.some.inj M;exact G
     ·exact T j y j0 M)⟩
 ·refine ag C J (wp_exit (aw (aw (aH (aa (wp_seq (ab (Ls J C fun a C=>?_))))))));refine wpList_nil (aa (wp_ret (ret1 J C J ?_)));rw [show xs.contains g_=false from by
   cases hq_: xs.contains g_ with
   | false=>rfl
   | true =>
    obtain⟨j,I⟩:=List.getElem?_of_mem (List.contains_iff_mem.1 hq_);exact absurd J (T j _ (by have a8:=(List.getElem?_eq_some_iff.1 I).1;omega) I)]
  exact⟨rfl,F.plain⟩
theorem c_rtarget {w0: World} {H: PHeap} {r: Nat} {S: PS} {es eb: Ent} (hI: Inv w0 H [es,eb]) (hK: RK r S H es eb) (hSl: S.length<=65536) {x: Wd} (hz: x.s.size<=2000000) (hwz: ∀(j: Nat) (b: PB),S[j]? =some (some b)->∀ w ∈ b.words,w.s.size<=2000000): Calls prog 128 #[(pB r),(.agg #[(iV x.tag),(iV x.n),(.string x.s),(.bool x.one)])] w0 (fun e w'=> ∃ H',e=.returned (.tuple #[.int .i64 (tgS S x).1,.int .i64 (tgS S x).2])/\Step w0 H [es,eb] w' H' [es,eb]):=by
 obtain⟨xs,A,c,rfl,V,O,X⟩:=hK;have F:=Step.refl hI;have a5:=bI X;have a6:=bn S 0;have a4:=Row.cap V;refine enter [(pB r),(.agg #[(iV x.tag),(iV x.n),(.string x.s),(.bool x.one)])] func128 J ntmps128 J fun a C=>?_;refine wp_seq (ab (lin J (aG (cs:= #[(iV x.tag),(iV x.n),(.string x.s),(.bool x.one)]) F C J J J fun I a w F C=>?_)));refine Ls J C fun a C=>?_;refine Ls J C fun a C=>?_;refine wpList_nil (aa (wp_seq (ab (Lm J C fun a C=>?_))));refine lin J (am (vs:= [(iV x.tag),(iV x.n),(.string x.s),(.bool x.one)]) T35 J C J (F.blkL 0 J) J (aj J) J fun a C=>?_);have a1:=eT (x:=x) (F.tail [(some I,(.cells #[(iV x.tag),(iV x.n),(.string x.s),(.bool x.one)] 35 (0,0)))]) ⟨_,_,_,rfl,V,O,X⟩ hSl hz hwz;refine lin J (Co func82 C J (a1) ?_);rintro e w ⟨a3,rfl,Z⟩;refine⟨_,rfl,fun a C=>?_⟩;have F:=F.frameR [(some I,(.cells #[(iV x.tag),(iV x.n),(.string x.s),(.bool x.one)] 35 (0,0)))] Z;have O:=O.mono Z.le;refine Lm J C fun a C=>?_;refine lin J (ah (v:=(.agg #[(iV (((dS S x).1).tag)),(iV (((dS S x).1).n)),(.string (((dS S x).1).s)),(.bool (((dS S x).1).one))])) C J J J fun a C=>?_);refine lin J (ah (v:=(iV ((dS S x).2))) C J J J fun a C=>?_);refine lin J (aB (cs:= #[(iV 0),(iV 0),(.string (⟨#[]⟩)),(.bool false)]) T35 F C J J fun Y a w F C=>?_);refine lin J (al (cs':= #[(iV (((dS S x).1).tag)),(iV (((dS S x).1).n)),(.string (((dS S x).1).s)),(.bool (((dS S x).1).one))]) T35 F (i:=0) J C J J J J J J fun a w F C=>?_);refine Ls J C fun a C=>?_;refine wpList_nil (aa (wp_seq (wp_seq (ab (Lm J C fun a C=>?_)))));refine lin J (bA (i:=((dS S x).2)) (j:=0) C J J J fun a C=>?_);refine wpList_nil (aa (aP (t:=15) C J (fun M C=>?_) (fun M C=>?_)))
 ·refine ao C J (wp_seq (ab (Lm J C fun a C=>?_)));refine Ls J C fun a C=>?_;refine Ls J C fun a C=>?_;refine wpList_nil (aa (wp_ret (af (ret2 J C J J ?_))));have F:=F.fd [0,0] J;have G: tgS S x=(0,(dS S x).2):=by unfold tgS;rw [if_pos (by simpa using M)]
  rw [G];exact⟨_,rfl,F⟩
 ·refine ag C J (wp_skip (aa (wp_seq (wp_seq (ab (lin J (ac (f:=0) (o2:=0) T35 T3 J J J J C J J fun a C=>?_)))))));refine lin J (ae (v:=(iV (((dS S x).1).tag))) T3 J C J (F.blkL 0 J) J J fun a C=>?_);refine lin J (bA (i:=(((dS S x).1).tag)) (j:=4) C J J J fun a C=>?_);refine wpList_nil (aa (aP (t:=19) C J (fun T C=>?_) (fun T C=>?_)))
  ·refine ao C J (wp_seq (ab (Ls J C fun a C=>?_)));refine Ls J C fun a C=>?_;refine wpList_nil (aa (wp_ret (af (ret2 J C J J ?_))));have F:=F.fd [0,0] J;have G: tgS S x=(0,211):=by unfold tgS;rw [if_neg (by simpa using M),if_pos (by simpa using T)]
   rw [G];exact⟨_,rfl,F⟩
  ·refine ag C J (wp_skip (aa (wp_seq (ab (Lm J C fun a C=>?_)))));refine lin J (ac (f:=1) (o2:=1) T35 T3 J J J J C J J fun a C=>?_);refine lin J (ae (v:=(iV (((dS S x).1).n))) T3 J C J (F.blkL 0 J) J J fun a C=>?_);have a2:=dB (a_:=(((dS S x).1).n)) (F.tail [(some Y,(.cells #[(iV (((dS S x).1).tag)),(iV (((dS S x).1).n)),(.string (((dS S x).1).s)),(.bool (((dS S x).1).one))] 35 (0,0))),(some I,(.cells #[(iV x.tag),(iV x.n),(.string x.s),(.bool x.one)] 35 (0,0)))]) ⟨_,_,_,rfl,V,O,X⟩ hSl;refine lin J (Co func126 C J (a2) ?_);rintro e w ⟨rfl,a0⟩;refine⟨_,rfl,fun a C=>?_⟩;have F:=F.frameR [(some Y,(.cells #[(iV (((dS S x).1).tag)),(iV (((dS S x).1).n)),(.string (((dS S x).1).s)),(.bool (((dS S x).1).one))] 35 (0,0))),(some I,(.cells #[(iV x.tag),(iV x.n),(.string x.s),(.bool x.one)] 35 (0,0)))] a0;refine Ls J C fun a C=>?_;refine Ls J C fun a C=>?_;refine wpList_nil (aa (wp_ret (ret2 J C J J ?_)));have F:=F.fd [0,0] J;have G: tgS S x=(fdI (enB 0 S) (dS S x).1.n,0):=by unfold tgS;rw [if_neg (by simpa using M),if_neg (by simpa using T)]
   rw [G];exact⟨_,rfl,F⟩
end Go.Vk.Tryz
namespace Go.Vk
section
variable {h: HS} {v x y: Wd} {j: Nat} {e: Int} {to: List Wd} {hk: List Int}
theorem bind_e1 {o: Option Nat} (h1: openS h.S v=(o,e)) (he: ¬ e=0): h.bind v x=(h,([],e)):=by
 unfold HS.bind;simp only [h1,ne_eq,he,not_false_iff,if_true]
theorem bind_e2 (h1: openS h.S v=(some j,0)) (h2:(valueS h.S x).2=e) (he: ¬ e=0): h.bind v x=(h,([],e)):=by
 unfold HS.bind;simp only [h1,h2,ne_eq,he,not_true_eq_false,not_false_iff,if_true,if_false]
theorem dR (h1: openS h.S v=(some j,0)) (h2: valueS h.S x=(y,0)): h.bind v x=match atS h.S y with
  | some (.var to hk) =>
   if y.n.toNat=j then (h,([],0)) else
   let l:=addG hk (hooksAt h.S j)
   if 4000 < l.length then (h,([],2)) else ((h.setB y.n.toNat (.var to l)).setB j (.var [x] []),([],0))
  | _=>(h.setB j (.var [x] []),(hooksAt h.S j,0)):=by
 unfold HS.bind;simp only [h1,h2,ne_eq,not_true_eq_false,if_false];rfl
theorem fb {S: PS} (hj: S[j]? =some (some (.var to hk))): hooksAt S j=hk:=by
 unfold hooksAt;rw [List.getD_eq_getElem?_getD,hj];rfl
theorem bind_same (h1: openS h.S v=(some j,0)) (h2: valueS h.S x=(y,0)) (ha: atS h.S y=some (.var to hk)) (hy: y.n.toNat=j): h.bind v x=(h,([],0)):=by
 rw [dR h1 h2,ha];dsimp only;rw [if_pos hy]
theorem bind_full {hk0: List Int} (h1: openS h.S v=(some j,0)) (h2: valueS h.S x=(y,0)) (ha: atS h.S y=some (.var to hk)) (hy: ¬ y.n.toNat=j) (h0: hooksAt h.S j=hk0) (hl: 4000 <(addG hk hk0).length): h.bind v x=(h,([],2)):=by
 subst h0;rw [dR h1 h2,ha];dsimp only;rw [if_neg hy,if_pos hl]
theorem bind_var {hk0: List Int} (h1: openS h.S v=(some j,0)) (h2: valueS h.S x=(y,0)) (ha: atS h.S y=some (.var to hk)) (hy: ¬ y.n.toNat=j) (h0: hooksAt h.S j=hk0) (hl: ¬ 4000 <(addG hk hk0).length): h.bind v x=((h.setB y.n.toNat (.var to (addG hk hk0))).setB j (.var [x] []),([],0)):=by
 subst h0;rw [dR h1 h2,ha];dsimp only;rw [if_neg hy,if_neg hl]
theorem bind_lit (h1: openS h.S v=(some j,0)) (h2: valueS h.S x=(y,0)) (ht: ¬ y.tag=4): h.bind v x=(h.setB j (.var [x] []),(hooksAt h.S j,0)):=by
 rw [dR h1 h2]
 cases ha: atS h.S y with
 | none=>rfl
 | some b =>
  cases b with
  | var to hk=>exact absurd (aD ha).2.2.2.2 ht
  | fn s l=>rfl
  | vec l=>rfl
end
end Go.Vk
namespace Go.Vk.Tryz
open Go.RowKit
set_option maxHeartbeats 2000000 in
theorem c_rBind {w0: World} {H: PHeap} {r: Nat} {h: HS} {es eb: Ent} (hO: h.Ok) (hI: Inv w0 H [es,eb]) (hK: RK r h.S H es eb) (hwz: ∀(j: Nat) (b: PB),h.S[j]? =some (some b)->∀ w ∈ b.words,w.s.size<=2000000) {v_ x_: Wd} (hzv: v_.s.size<=2000000) (hzx: x_.s.size<=2000000): Calls prog 83 #[(pB r),(.agg #[(iV v_.tag),(iV v_.n),(.string v_.s),(.bool v_.one)]),(.agg #[(iV x_.tag),(iV x_.n),(.string x_.s),(.bool x_.one)])] w0 (fun e w'=> ∃ H' es' eb' A c,e=.returned (.tuple #[.slice A (h.bind v_ x_).2.1.length c,.int .i64 (h.bind v_ x_).2.2])/\RowI H' A c (h.bind v_ x_).2.1/\RK r (h.bind v_ x_).1.S H' es' eb'/\Step w0 H [es,eb] w' H' [es',eb']):=by
 have cw:=hO.le;obtain⟨xs,A,c,rfl,a3,Z,a9⟩:=hK;have F:=Step.refl hI;have jd:=bI a9;have je:=bn (HS.S h) 0;have im:=Row.cap a3;refine enter [(pB r),(.agg #[(iV v_.tag),(iV v_.n),(.string v_.s),(.bool v_.one)]),(.agg #[(iV x_.tag),(iV x_.n),(.string x_.s),(.bool x_.one)])] func83 J ntmps83 J fun a C=>?_;refine wp_seq (ab (lin J (aG (cs:= #[(iV v_.tag),(iV v_.n),(.string v_.s),(.bool v_.one)]) F C J J J fun b7 a w F C=>?_)));refine lin J (aG (cs:= #[(iV x_.tag),(iV x_.n),(.string x_.s),(.bool x_.one)]) F C J J J fun a8 a w F C=>?_);refine Ls J C fun a C=>?_;refine Ls J C fun a C=>?_;refine wpList_nil (aa (wp_seq (ab (Lm J C fun a C=>?_))));refine lin J (am (vs:= [(iV v_.tag),(iV v_.n),(.string v_.s),(.bool v_.one)]) T35 J C J (F.blkL 1 J) J (aj J) J fun a C=>?_);have fz:=c_rtarget (x:=v_) (F.tail [(some a8,(.cells #[(iV x_.tag),(iV x_.n),(.string x_.s),(.bool x_.one)] 35 (0,0))),(some b7,(.cells #[(iV v_.tag),(iV v_.n),(.string v_.s),(.bool v_.one)] 35 (0,0)))]) ⟨_,_,_,rfl,a3,Z,a9⟩ cw hzv hwz;refine lin J (Co func128 C J (fz) ?_);rintro e w ⟨h4,rfl,dx⟩;refine⟨_,rfl,fun a C=>?_⟩;have F:=F.frameR [(some a8,(.cells #[(iV x_.tag),(iV x_.n),(.string x_.s),(.bool x_.one)] 35 (0,0))),(some b7,(.cells #[(iV v_.tag),(iV v_.n),(.string v_.s),(.bool v_.one)] 35 (0,0)))] dx;have Z:=Z.mono dx.le;refine Lm J C fun a C=>?_;refine lin J (ah (v:=(iV ((tgS (HS.S h) v_).1))) C J J J fun a C=>?_);refine lin J (ah (v:=(iV ((tgS (HS.S h) v_).2))) C J J J fun a C=>?_);refine Ls J C fun a C=>?_;refine Ls J C fun a C=>?_;refine wpList_nil (aa (wp_seq (wp_seq (ab (Lm J C fun a C=>?_)))));refine lin J (bA (i:=((tgS (HS.S h) v_).2)) (j:=0) C J J J fun a C=>?_);refine wpList_nil (aa (aP (t:=22) C J (fun bv C=>?_) (fun bv C=>?_)))
 ·refine ao C J (wp_seq (ab (Lm J C fun a C=>?_)));refine Ls J C fun a C=>?_;refine Ls J C fun a C=>?_;refine wpList_nil (aa (wp_ret (af (ret2 J C J J ?_))));have F:=F.fd [0,0] J;have ax: h.bind v_ x_=(h,([],(tgS (HS.S h) v_).2)):=bind_e1 (tg_no (by simpa using bv)) (by simpa using bv);rw [ax];exact⟨_,_,_,none,0,rfl,RowI.nil _,⟨_,_,_,rfl,a3,Z,a9⟩,F⟩
 ·refine ag C J (wp_skip (aa (wp_seq ?_)));have ge:(tgS (HS.S h) v_).2=0:=by simpa using bv
  obtain⟨M,a1,Y,gf,cc,c8,bm,jw,jx⟩:=tg_ok ge;obtain⟨k2,bh,bk⟩:=map_at' a9 cc;have jm:=(List.getElem?_eq_some_iff.1 bh).1;have bg: Y.length<=4000:=(hO.blk _ _ c8).1.2;rw [gf] at C;refine ab (Lm J C fun a C=>?_);refine lin J (am (vs:= [(iV x_.tag),(iV x_.n),(.string x_.s),(.bool x_.one)]) T35 J C J (F.blkL 0 J) J (aj J) J fun a C=>?_);have g0:=eT (x:=x_) (F.tail [(some a8,(.cells #[(iV x_.tag),(iV x_.n),(.string x_.s),(.bool x_.one)] 35 (0,0))),(some b7,(.cells #[(iV v_.tag),(iV v_.n),(.string v_.s),(.bool v_.one)] 35 (0,0)))]) ⟨_,_,_,rfl,a3,Z,a9⟩ cw hzx hwz;refine lin J (Co func82 C J (g0) ?_);rintro e w ⟨db,rfl,dy⟩;refine⟨_,rfl,fun a C=>?_⟩;have F:=F.frameR [(some a8,(.cells #[(iV x_.tag),(iV x_.n),(.string x_.s),(.bool x_.one)] 35 (0,0))),(some b7,(.cells #[(iV v_.tag),(iV v_.n),(.string v_.s),(.bool v_.one)] 35 (0,0)))] dy;have Z:=Z.mono dy.le;refine Lm J C fun a C=>?_;refine lin J (ah (v:=(.agg #[(iV (((dS (HS.S h) x_).1).tag)),(iV (((dS (HS.S h) x_).1).n)),(.string (((dS (HS.S h) x_).1).s)),(.bool (((dS (HS.S h) x_).1).one))])) C J J J fun a C=>?_);refine lin J (ah (v:=(iV ((dS (HS.S h) x_).2))) C J J J fun a C=>?_);refine lin J (aB (cs:= #[(iV 0),(iV 0),(.string (⟨#[]⟩)),(.bool false)]) T35 F C J J fun b4 a w F C=>?_);refine lin J (al (cs':= #[(iV (((dS (HS.S h) x_).1).tag)),(iV (((dS (HS.S h) x_).1).n)),(.string (((dS (HS.S h) x_).1).s)),(.bool (((dS (HS.S h) x_).1).one))]) T35 F (i:=0) J C J J J J J J fun a w F C=>?_);refine Ls J C fun a C=>?_;refine wpList_nil (aa (wp_seq (wp_seq (ab (Lm J C fun a C=>?_)))));refine lin J (bA (i:=((dS (HS.S h) x_).2)) (j:=0) C J J J fun a C=>?_);refine wpList_nil (aa (aP (t:=31) C J (fun cl C=>?_) (fun cl C=>?_)))
  ·refine ao C J (wp_seq (ab (Lm J C fun a C=>?_)));refine Ls J C fun a C=>?_;refine Ls J C fun a C=>?_;refine wpList_nil (aa (wp_ret (af (ret2 J C J J ?_))));have F:=F.fd [0,0,0] J;have ax: h.bind v_ x_=(h,([],(dS (HS.S h) x_).2)):=bind_e2 bm (by rw [eX]) (by simpa using cl);rw [ax];exact⟨_,_,_,none,0,rfl,RowI.nil _,⟨_,_,_,rfl,a3,Z,a9⟩,F⟩
  ·refine ag C J (wp_skip (aa (wp_seq (wp_seq ?_))));have ec:=eX h.S x_;have ea:(valueS h.S x_).2=0:=by rw [<- ec];simpa using cl
   obtain⟨T,d7⟩: ∃ y,(valueS h.S x_).1=y:=⟨_,rfl⟩;have ce: valueS h.S x_=(T,0):=Prod.ext d7 ea;obtain⟨ef,ee⟩:=ed ea;rw [d7] at ef ee;rw [ec,d7] at F
   let dc:List (Nat×Value):=[(0,(.agg #[(iV x_.tag),(iV x_.n),(.string x_.s),(.bool x_.one)]))];by_cases bf: T.tag=4
   ·obtain⟨a2,a4,en,fv,cb,jg,fx,f9,jv⟩:=cP (S:=(HS.S h)) (w:=T) ef (by unfold refB;rw [bf];rfl);obtain⟨k1,d4,dv⟩:=map_at' a9 cb;have jl:=(List.getElem?_eq_some_iff.1 d4).1;obtain⟨av,cd⟩:=ee bf;obtain rfl: en=PB.var [] av:=Option.some.inj (f9.symm.trans cd);have e0: av.length<=4000:=(hO.blk _ _ fx).1.2;have cv:=F;obtain⟨b5,bi,h5,ep,e6,gg,fq,fk⟩:=Row.getG RbV.len j2 a3 (j:=M) j0;have f0:(A: Option Addr)=some ⟨bi,0,none⟩:=by injection gg
    obtain⟨jn,jh⟩:=AllRv.at_ Z e6;have d1: b5.b=(a1,PB.var [] Y):=by rw [Option.some.inj (e6.symm.trans bh)];exact bk
    have fe: b5.b.2.hooks=Y:=by rw [d1];rfl
    have ia: b5.b.2.hooks.length<=4000:=by rw [fe];exact bg
    refine bD ba [FcV (pB b4),FcV (iV T.tag),FcV (.bool true),FcV (.bool true),FcV (.pointer (some ⟨b4,1,none⟩)),FcV (iV T.n),FcV (pB r),FcV (pB r),FcV (.pointer (some ⟨r,1,none⟩)),FcV (.slice A xs.length c),FcV (iV ((M: Nat): Int)),FcV (.pointer (some ⟨bi,0+M * 6,none⟩)),FcV (.pointer (some ⟨bi,(0+M * 6+0),none⟩)),FcV (iV ((b5.b.1: Nat): Int)),FcV (.bool (decide (T.n=((b5.b.1: Nat): Int)))),FcV (.bool (decide (T.n=((b5.b.1: Nat): Int))))] (N:=129) (E:= [(0,(pB r)),(5,(pB a8)),(8,(iV ((M: Nat): Int))),(10,(pB b4))]) mixed J Mq F (C.pk J) (.c4 ?_ ?_ ?_ ?_ (.c4 ?_ ?_ ?_ ?_ (.c4 ?_ ?_ ?_ ?_ (.c4 ?_ ?_ ?_ ?_ (.nil))))) (fun a w gy g1 F C a0=>?_)
    ·refine Qz J fun a w F C G=>?_;exact ac (f:=0) (o2:=0) T35 T3 J J J J C J J fun a C=>qe C F
    ·refine Qz1 0 J fun a w F C G=>?_;exact ae (v:=(iV T.tag)) T3 J C J (F.blkL 0 J) J J fun a C=>qe C F
    ·refine Qz1 1 J fun a w F C G=>?_;refine id (aJ (i:=T.tag) (j:=4) C J J J fun a C=>?_);rw [decide_eq_true bf] at C;exact qe C F
    ·refine Qz1 2 J fun a w F C G=>?_;exact aq C J J fun a C=>qe C F
    ·intro a w O I F C G;subst I;obtain⟨_,C,rfl⟩:=G.g C 3 J;rw [if_pos (ay J C J J J)];exact ac (f:=1) (o2:=1) T35 T3 J J J J C J J fun a C=>qe C F
    ·intro a w O I F C G;subst I;obtain⟨_,C,rfl⟩:=G.g C 4 J;obtain⟨_,C,rfl⟩:=G.g C 3 J;rw [if_pos (ay J C J J J)];exact ae (v:=(iV T.n)) T3 J C J (F.blkL 0 J) J J fun a C=>qe C F
    ·intro a w O I F C G;subst I;obtain⟨_,C,rfl⟩:=G.g C 3 J;rw [if_pos (ay J C J J J)];exact aq C J J fun a C=>qe C F
    ·intro a w O I F C G;subst I;obtain⟨_,C,rfl⟩:=G.g C 6 J;obtain⟨_,C,rfl⟩:=G.g C 3 J;rw [if_pos (ay J C J J J)];exact aE C J J fun a C=>qe C F
    ·intro a w O I F C G;subst I;obtain⟨_,C,rfl⟩:=G.g C 7 J;obtain⟨_,C,rfl⟩:=G.g C 3 J;rw [if_pos (ay J C J J J)];exact ac (f:=1) (o2:=1) T133 T131 J J J J C J J fun a C=>qe C F
    ·intro a w O I F C G;subst I;obtain⟨_,C,rfl⟩:=G.g C 8 J;obtain⟨_,C,rfl⟩:=G.g C 3 J;rw [if_pos (ay J C J J J)];exact ae (v:=(.slice A xs.length c)) T131 J C J (F.blkL 3 J) J J fun a C=>qe C F
    ·intro a w O I F C G;subst I;obtain⟨_,C,rfl⟩:=G.g C 3 J;rw [if_pos (ay J C J J J)];exact aq C J J fun a C=>qe C F
    ·intro a w O I F C G;subst I;obtain⟨_,C,rfl⟩:=G.g C 9 J;obtain⟨_,C,rfl⟩:=G.g C 10 J;obtain⟨_,C,rfl⟩:=G.g C 3 J;rw [if_pos (ay J C J J J)];exact az (b:=bi) (o:=0) (j:=M) T131.und T140 f0 C J J j0 j0 J fun a C=>qe C F
    ·intro a w O I F C G;subst I;obtain⟨_,C,rfl⟩:=G.g C 11 J;obtain⟨_,C,rfl⟩:=G.g C 3 J;rw [if_pos (ay J C J J J)];exact ac (f:=0) (o2:=(0+M * 6+0)) T140 T3 J J J J C J J fun a C=>qe C F
    ·intro a w O I F C G;subst I;obtain⟨_,C,rfl⟩:=G.g C 12 J;obtain⟨_,C,rfl⟩:=G.g C 3 J;rw [if_pos (ay J C J J J)];exact ae (v:=(iV ((b5.b.1: Nat): Int))) T3 J C J (F.blkL 4 (b:=bi) (o:=.cells ep 140 (0,0)) (by rw [<- fq];rfl)) (fk 0 _ J) J fun a C=>qe C F
    ·intro a w O I F C G;subst I;obtain⟨_,C,rfl⟩:=G.g C 5 J;obtain⟨_,C,rfl⟩:=G.g C 13 J;obtain⟨_,C,rfl⟩:=G.g C 3 J;rw [if_pos (ay J C J J J)];exact aJ (i:=T.n) (j:=((b5.b.1: Nat): Int)) C J J J fun a C=>qe C F
    ·refine Qz1 3 J fun a w F C G=>?_;obtain⟨_,C,rfl⟩:=G.g C 14 J;exact an C J J J fun a C=>qe C F
    subst g1;obtain⟨_,C,rfl⟩:=Dd C a0 15 J;refine aa (ai (t:=48) C J (fun cm C=>?_) (fun cm C=>?_))
    ·refine ao C J (wp_seq (ab (Ls J C fun a C=>?_)));refine Ls J C fun a C=>?_;refine wpList_nil (aa (wp_ret (af (ret2 J C J J ?_))));have F:=F.fd [0,0,0] J;have ax: h.bind v_ x_=(h,([],0)):=bind_same bm ce cd (by
      have bc:=cm;rw [d1] at bc;dsimp only at bc;omega)
     rw [ax];exact⟨_,_,_,none,0,rfl,RowI.nil _,⟨_,_,_,rfl,a3,Z,a9⟩,F⟩
    ·have d2: ¬ T.n.toNat=a1:=by
      have bc:=cm;rw [d1] at bc;dsimp only at bc;omega
     have e5: a2≠M:=fun eu=>d2 (by
      subst eu;have bc:=congrArg Prod.fst (Option.some.inj (cb.symm.trans cc));dsimp only at bc;omega)
     refine ag C J (wp_skip (aa (wp_seq (ab (Lm J C fun a C=>?_)))));refine lin J (aE C J J fun a C=>?_);refine lin J (ac (f:=1) (o2:=1) T133 T131 J J J J C J J fun a C=>?_);refine lin J (ae (v:=(.slice A xs.length c)) T131 J C J (F.blkL 3 J) J J fun a C=>?_);refine Lm J C fun a C=>?_;obtain⟨b6,cg,h6,eq,e7,gh,fr,fl⟩:=Row.getG RbV.len j2 a3 (j:=M) j0;have f1:(A: Option Addr)=some ⟨cg,0,none⟩:=by injection gh
     obtain⟨jo,ga⟩:=AllRv.at_ Z e7;refine lin J (az (b:=cg) (o:=0) (j:=M) T131.und T140 f1 C J J j0 j0 J fun a C=>?_);have fi: b6.b=(a1,PB.var [] Y):=by rw [Option.some.inj (e7.symm.trans bh)];exact bk
     have du: b6.b.2.hooks=Y:=by rw [fi];rfl
     have ib: b6.b.2.hooks.length<=4000:=by rw [du];exact bg
     refine lin J (ac (f:=5) (o2:=(0+M * 6+5)) T140 T26 J J J J C J J fun a C=>?_);refine lin J (ae (v:=(.slice b6.A2 b6.b.2.hooks.length b6.c2)) T26 J C J (F.blkL 4 (b:=cg) (o:=.cells eq 140 (0,0)) (by rw [<- fr];rfl)) (fl 5 _ J) J fun a C=>?_);refine Ls J C fun a C=>?_;refine wpList_nil (aa (wp_seq (wp_seq ?_)));have b2:=ga;simp only [du] at C b2;refine ab (lin J (ac (f:=0) (o2:=0) T35 T3 J J J J C J J fun a C=>?_));refine lin J (ae (v:=(iV T.tag)) T3 J C J (F.blkL 0 J) J J fun a C=>?_);refine lin J (aJ (i:=T.tag) (j:=4) C J J J fun a C=>?_);rw [decide_eq_true bf] at C;refine wpList_nil (aa (ao C J (wp_seq (ab (Lm J C fun a C=>?_)))));refine lin J (ac (f:=1) (o2:=1) T35 T3 J J J J C J J fun a C=>?_);refine lin J (ae (v:=(iV T.n)) T3 J C J (F.blkL 0 J) J J fun a C=>?_);have dz:=dB (a_:=T.n) (F.tail [(some b4,(.cells #[(iV T.tag),(iV T.n),(.string T.s),(.bool T.one)] 35 (0,0))),(some a8,(.cells #[(iV x_.tag),(iV x_.n),(.string x_.s),(.bool x_.one)] 35 (0,0))),(some b7,(.cells #[(iV v_.tag),(iV v_.n),(.string v_.s),(.bool v_.one)] 35 (0,0)))]) ⟨_,_,_,rfl,a3,Z,a9⟩ cw;rw [fv] at dz;refine lin J (Co func126 C J (dz) ?_);rintro e w ⟨rfl,fj⟩;refine⟨_,rfl,fun a C=>?_⟩;have F:=F.frameR [(some b4,(.cells #[(iV T.tag),(iV T.n),(.string T.s),(.bool T.one)] 35 (0,0))),(some a8,(.cells #[(iV x_.tag),(iV x_.n),(.string x_.s),(.bool x_.one)] 35 (0,0))),(some b7,(.cells #[(iV v_.tag),(iV v_.n),(.string v_.s),(.bool v_.one)] 35 (0,0)))] fj;refine Ls J C fun a C=>?_;refine wpList_nil (aa (wp_seq (ab (lin J (a6 (vs:= []) (cells:= []) T26.und T3 F C (C.evp J) J J J J fun ek a w F C=>?_)))));refine Lm J C fun a C=>?_;refine lin J (aE C J J fun a C=>?_);refine lin J (ac (f:=1) (o2:=1) T133 T131 J J J J C J J fun a C=>?_);refine lin J (ae (v:=(.slice A xs.length c)) T131 J C J (F.blkL 4 J) J J fun a C=>?_);refine Lm J C fun a C=>?_;obtain⟨V,ch,h7,er,bo,gi,ft,fm⟩:=Row.getG RbV.len j2 a3 (j:=a2) j0;have f2:(A: Option Addr)=some ⟨ch,0,none⟩:=by injection gi
     obtain⟨jp,gb⟩:=AllRv.at_ Z bo;refine lin J (az (b:=ch) (o:=0) (j:=a2) T131.und T140 f2 C J J j0 j0 J fun a C=>?_);have bl: V.b=(a4,PB.var [] av):=by rw [Option.some.inj (bo.symm.trans d4)];exact dv
     have c5: V.b.2.hooks=av:=by rw [bl];rfl
     have fg: V.b.2.hooks.length<=4000:=by rw [c5];exact e0
     refine lin J (ac (f:=5) (o2:=(0+a2 * 6+5)) T140 T26 J J J J C J J fun a C=>?_);refine lin J (ae (v:=(.slice V.A2 V.b.2.hooks.length V.c2)) T26 J C J (F.blkL 5 (b:=ch) (o:=.cells er 140 (0,0)) (by rw [<- ft];rfl)) (fm 5 _ J) J fun a C=>?_);refine lin J (aS (news:=(ints V.b.2.hooks)) (xs:= []) T26.und T3 J J F (Row.empty ek 3 1) C J J j1 (fun e3=>by obtain⟨_,_,b,o,e,cs,ex,h1,h2⟩:=gb;exact⟨b,o,e,cs,ex,(h1 e3).1,F.blkH (h1 e3).2,h2⟩) (ints_one _) j0 J J fun jz ev a w bx F C=>?_);rw [List.nil_append] at bx;obtain⟨eg,eo,rfl⟩:=bx.slice;refine Ls J C fun a C=>?_;refine wpList_nil (aa (wp_seq (wp_seq ?_)));simp only [Nat.zero_add,c5] at C bx;refine ab (Ls J C fun a C=>?_);refine wpList_nil (aa (wp_block ?_));have j7: Y.length<=4000:=bg;refine aL (fun gt a w=> ∃(bq: PHeap),∃(k: Nat),∃(X: List Int),∃(bu: Ent),∃(a5: Option Addr),∃(a7: Nat),Le db bq/\gt=Y.length - k/\Has [] a 129 [(0,(pB r)),(5,(pB a8)),(8,(iV ((M: Nat): Int))),(11,(.slice b6.A2 Y.length b6.c2)),(12,(iV ((a2: Nat): Int))),(13,(.slice a5 X.length a7)),(14,(iV ((k: Nat): Int)))]/\Step w0 H [(some r,.cells #[.int .i64 ((List.length (HS.S h)): Int),.slice A xs.length c] 133 (0,0)),eb] w bq [bu,(some b4,(.cells #[(iV T.tag),(iV T.n),(.string T.s),(.bool T.one)] 35 (0,0))),(some a8,(.cells #[(iV x_.tag),(iV x_.n),(.string x_.s),(.bool x_.one)] 35 (0,0))),(some b7,(.cells #[(iV v_.tag),(iV v_.n),(.string v_.s),(.bool v_.one)] 35 (0,0))),(some r,(.cells #[(iV (((List.length (HS.S h)): Nat): Int)),(.slice A xs.length c)] 133 (0,0))),eb]/\(Row (.slice a5 X.length a7) bu 3 1 X.length (ints X))/\(addG X (Y.drop k)=addG av Y)/\(X.length<=4000+k)/\(k<=Y.length)) _ ⟨db,0,av,ev,eg,eo,Le.refl _,rfl,C.pk J,F,(by simpa using bx),rfl,j0,j0⟩ ?_;intro jy a w fw;obtain⟨bq,k,X,bu,a5,a7,c9,jf,C,F,c0,c3,j9,j8⟩:=fw;have Z:=Z.mono c9;have b2:=b2.mono c9;refine wp_seq (wp_seq (ab (Lm J C fun a C=>?_)));refine Lm J C fun a C=>?_;refine lin J (aI T26.und C J J fun a C=>?_);refine lin J (aQ (i:=((k: Nat): Int)) (j:=((Y.length: Nat): Int)) C J J J fun a C=>?_);refine wpList_nil (aa (ai (t:=77) C J (fun ey C=>?_) (fun ey C=>?_)))
     ·refine ao C J (wp_skip (aa (wp_seq (wp_block (wp_seq (ab (Lm J C fun a C=>?_)))))));refine Lm J C fun a C=>?_;refine Lm J C fun a C=>?_;obtain⟨d8,el,gu,hz,hi,i8,d5,f3,fa,fn⟩:=b2.get (j:=k) j0;refine lin J (az (b:=el) (o:=gu) (j:=k) T26.und T3 f3 C J J j0 j0 J fun a C=>?_);refine lin J (ae (v:=(iV d8)) T3 J C J (F.blkH fa) (by rw [Nat.mul_one];exact fn) J fun a C=>?_);have fy:=c_rin (g_:=d8) F.inv.nil (RdI.of_row F.inv c0 0 J j0) j0;refine lin J (Cs func129 C J (fy) F fun a w C F=>?_);refine lin J (aK C J J fun a C=>?_);refine wpList_nil (aa (au (t:=86) C J (fun cn C=>?_) (fun cn C=>?_)))
      ·refine ao C J (ab (Lm J C fun a C=>?_));refine Lm J C fun a C=>?_;refine Lm J C fun a C=>?_;obtain⟨b3,em,gv,i0,hj,i9,gs,f4,fc,fo⟩:=b2.get (j:=k) j0;refine lin J (az (b:=em) (o:=gv) (j:=k) T26.und T3 f4 C J J j0 j0 J fun a C=>?_);refine lin J (ae (v:=(iV b3)) T3 J C J (F.blkH fc) (by rw [Nat.mul_one];exact fo) J fun a C=>?_);refine lin J (a6 (vs:= [(0,(iV b3))]) (cells:= [(iV b3)]) T26.und T3 F C (C.evp J) J J J J fun df a w F C=>?_);obtain⟨da,F,g2,dt⟩:=F.give;have ju: RowI da (some ⟨df,0,none⟩) 1 [b3]:=RowI.of_lit [b3] dt j1 J;refine lin J (aS (news:=(ints [b3])) (xs:=(ints X)) T26.und T3 J J F c0 C J J J (fun _=>⟨df,0,_,_,_,rfl,F.blkH dt,aj J⟩) (ci J) j0 J J fun k0 ew a w bj F C=>?_);rw [<- List.map_append] at bj;obtain⟨cf,ck,rfl⟩:=bj.slice;have e4:(X.length+1)=(X++ [b3]).length:=by have c1:=bj.1;simp only [List.length_map] at c1;omega
       rw [show Value.slice cf (X.length+1) ck=Value.slice cf (X++ [b3]).length ck from by rw [e4]] at C;rw [e4] at bj;refine Ls J C fun a C=>?_;refine wpList_nil (ar (aa (ab (Lm J C fun a C=>?_))));refine lin J (aF (i:=((k: Nat): Int)) (j:=1) C J J J j0 fun a C=>?_);refine Ls J C fun a C=>?_;refine wpList_nil (aa (?_));exact⟨Y.length - (k+1),by omega,da,(k+1),(X++ [b3]),ew,cf,ck,(c9.trans (g2)),rfl,C.pk J,F,bj,(by rw [<- c3,cR d5,if_neg (by simpa using cn),show b3=d8 from Option.some.inj (gs.symm.trans d5)]),(by first | omega |(simp only [List.length_append,List.length_cons,List.length_nil];omega)),j0⟩
      ·refine ag C J (wp_skip (ar (aa (ab (Lm J C fun a C=>?_)))));refine lin J (aF (i:=((k: Nat): Int)) (j:=1) C J J J j0 fun a C=>?_);refine Ls J C fun a C=>?_;refine wpList_nil (aa (?_));exact⟨Y.length - (k+1),by omega,bq,(k+1),X,bu,a5,a7,(c9),rfl,C.pk J,F,c0,(by rw [<- c3,cR d5,if_pos (by simpa using cn)]),(by first | omega |(simp only [List.length_append,List.length_cons,List.length_nil];omega)),j0⟩
     ·refine ag C J (wp_exit (aw (aw (aH (aa (wp_seq (wp_seq (ab (Lm J C fun a C=>?_)))))))));refine lin J (aI T26.und C J J fun a C=>?_);refine lin J (cx (i:=((X.length: Nat): Int)) (j:=4000) C J J J fun a C=>?_);refine wpList_nil (aa (ai (t:=96) C J (fun ez C=>?_) (fun ez C=>?_)))
      ·refine ao C J (wp_seq (ab (Ls J C fun a C=>?_)));refine Ls J C fun a C=>?_;refine wpList_nil (aa (wp_ret (af (af (ret2 J C J J ?_)))));have F:=F.fd [0,0,0,0] J;have ca: X=addG av Y:=by rw [<- c3,addG_done j0]
       have ax: h.bind v_ x_=(h,([],2)):=bind_full bm ce cd d2 (fb c8) (by rw [<- ca];omega);rw [ax];exact⟨_,_,_,none,0,rfl,RowI.nil _,⟨_,_,_,rfl,a3,Z,a9⟩,F⟩
      ·refine ag C J (wp_skip (aa (wp_seq (ab (Lm J C fun a C=>?_)))));refine lin J (aE C J J fun a C=>?_);refine lin J (ac (f:=1) (o2:=1) T133 T131 J J J J C J J fun a C=>?_);refine lin J (ae (v:=(.slice A xs.length c)) T131 J C J (F.blkL 4 J) J J fun a C=>?_);refine Lm J C fun a C=>?_;refine Lm J C fun a C=>?_;obtain⟨gw,dg,h8,hm,e8,gj,io,ie⟩:=Row.getG RbV.len j2 a3 (j:=a2) j0;have dl:(A: Option Addr)=some ⟨dg,0,none⟩:=by injection gj
       obtain⟨d3,ji⟩:=AllRv.at_ Z e8;obtain rfl: V=gw:=Option.some.inj (bo.symm.trans e8);refine lin J (az (b:=dg) (o:=0) (j:=a2) T131.und T140 dl C J J j0 j0 J fun a C=>?_);have bl: V.b=(a4,PB.var [] av):=by rw [Option.some.inj (bo.symm.trans d4)];exact dv
       have c5: V.b.2.hooks=av:=by rw [bl];rfl
       have fg: V.b.2.hooks.length<=4000:=by rw [c5];exact e0
       refine lin J (ac (f:=5) (o2:=(0+a2 * 6+5)) T140 T26 J J J J C J J fun a C=>?_);refine lin J (dN (j:=a2) (d:=5) T26 F (i:=5) J a3 J dl j0 j2 J C J J J J fun i1 a w bz ip F C=>?_);rw [show (Value.cells _).toList= [(.slice a5 X.length a7)] from rfl] at bz;refine wpList_nil (aa (ab (Ls J C fun a C=>?_)));refine wpList_nil (aa (wp_seq ?_));have ca: X=addG av Y:=by rw [<- c3,addG_done j0]
       obtain⟨ej,F,e2,f8⟩:=Row.giveI c0 F j4;have Z:=Z.mono e2;have d3:=d3.mono e2;rw [spl_rb1 (x':=(RbV.mk (a4,PB.var [] X) V.A V.c a5 a7)) bo bl j2 J] at bz;have bw: AllRv ej (xs.set a2 (RbV.mk (a4,PB.var [] X) V.A V.c a5 a7)):=AllRv.set (x:=(RbV.mk (a4,PB.var [] X) V.A V.c a5 a7)) Z ⟨(by have c1:=d3;rw [bl] at c1;exact c1),f8⟩ a2;have g7:(xs.set a2 (RbV.mk (a4,PB.var [] X) V.A V.c a5 a7)).map RbV.b=enB 0 ((HS.S h).set a4 (some (PB.var [] X))):=fN a9 cb J;have ja:(xs.set a2 (RbV.mk (a4,PB.var [] X) V.A V.c a5 a7)).length=xs.length:=List.length_set;have gr:=(List.getElem?_set_ne (l:=xs) (a:=(RbV.mk (a4,PB.var [] X) V.A V.c a5 a7)) e5).trans bh;have gd:(enB 0 (h.S.set a4 (some (PB.var [] X))))[M]? =some (a1,PB.var [] Y):=by rw [enB_put0 cb,List.getElem?_set_ne e5];exact cc
       refine ab (Lm J C fun a C=>?_);refine lin J (aE C J J fun a C=>?_);refine lin J (ac (f:=1) (o2:=1) T133 T131 J J J J C J J fun a C=>?_);refine lin J (ae (v:=(.slice A xs.length c)) T131 J C J (F.blkL 3 J) J J fun a C=>?_);refine Lm J C fun a C=>?_;obtain⟨d9,dh,h9,hn,d6,gk,iq,ig⟩:=Row.getG RbV.len j2 bz (j:=M) j0;have dm:(A: Option Addr)=some ⟨dh,0,none⟩:=by injection gk
       obtain⟨jq,jj⟩:=AllRv.at_ bw d6;refine lin J (az (b:=dh) (o:=0) (j:=M) T131.und T140 dm C J J j0 j0 J fun a C=>?_);have dw: d9.b=(a1,PB.var [] Y):=by rw [Option.some.inj (d6.symm.trans gr)];exact bk
       have ff: d9.b.2.hooks=Y:=by rw [dw];rfl
       have ic: d9.b.2.hooks.length<=4000:=by rw [ff];exact bg
       refine lin J (ac (f:=4) (o2:=(0+M * 6+4)) T140 T4 J J J J C J J fun a C=>?_);refine lin J (dN (j:=M) (d:=4) T4 F (i:=4) J bz J dm j0 j2 J C J J J J fun i2 a w co ir F C=>?_);rw [show (Value.cells _).toList= [(.bool true)] from rfl] at co;refine wpList_nil (aa (wp_seq ?_));have cv:=F;obtain⟨br,ha,hp,gl,it,ih, -⟩:=co.at_ (j:=M) j0;have dn:(A: Option Addr)=some ⟨br,0,none⟩:=by injection gl
       refine cM rel_le _ J [FcV (pB r),FcV (pB r),FcV (.pointer (some ⟨r,1,none⟩)),FcV (.slice A xs.length c),FcV (iV ((M: Nat): Int)),FcV (.agg #[(iV x_.tag),(iV x_.n),(.string x_.s),(.bool x_.one)]),fun H v=> ∃ b,v=.slice (some ⟨b,0,none⟩) 1 1/\H b=some (.cells #[(iV x_.tag),(iV x_.n),(.string x_.s),(.bool x_.one)] 35 (0,0)),FcV (.pointer (some ⟨br,0+M * 6,none⟩)),FcV (.pointer (some ⟨br,(0+M * 6+3),none⟩))] (N:=129) (E:= [(0,(pB r)),(5,(pB a8)),(8,(iV ((M: Nat): Int))),(11,(.slice none 0 0))]) mixed J J J (M1 (M1 (M1 (M1 (M1 (M1 (Monos.cons (fun _ _ _ hl ⟨b,h,cy⟩=>⟨b,h,hl _ _ cy⟩) (M1 (M1 (Monos.nil)))))))))) F (C.pk J) (.c4 ?_ ?_ ?_ ?_ (.c4 ?_ ?_ ?_ ?_ (.cons ?_ (.nil)))) (fun a w eh g4 F C a0=>?_)
       ·refine Qy J fun a w O I F C G=>?_;exact aq C J J fun a C=>ql C F
       ·refine Qy1 0 J fun a w O I F C G=>?_;exact aE C J J fun a C=>ql C F
       ·refine Qy1 1 J fun a w O I F C G=>?_;exact ac (f:=1) (o2:=1) T133 T131 J J J J C J J fun a C=>ql C F
       ·refine Qy1 2 J fun a w O I F C G=>?_;exact ae (v:=(.slice A xs.length c)) T131 J C J (F.blkL 3 J) J J fun a C=>ql C F
       ·refine Qy J fun a w O I F C G=>?_;exact aq C J J fun a C=>ql C F
       ·refine Qy J fun a w O I F C G=>?_;exact am (vs:= [(iV x_.tag),(iV x_.n),(.string x_.s),(.bool x_.one)]) T35 J C J (F.blkL 1 J) J (aj J) J fun a C=>ql C F
       ·refine Qy1 5 J fun a w O I F C G=>?_;refine id (a6 (vs:= dc) (cells:= [(iV x_.tag),(iV x_.n),(.string x_.s),(.bool x_.one)]) T37.und T35 F C (C.evp J) J J J J fun b8 a w F C=>?_);obtain⟨gz,F,g3,cz⟩:=F.give;exact qdone g3 C F ⟨_,rfl,cz⟩
       ·refine Qy1 3 J fun a w O I F C G=>?_;obtain⟨_,C,rfl⟩:=G.g C 4 J;exact az (b:=br) (o:=0) (j:=M) T131.und T140 dn C J J j0 j0 J fun a C=>ql C F
       ·refine Qy1 7 J fun a w O I F C G=>?_;exact ac (f:=3) (o2:=(0+M * 6+3)) T140 T37 J J J J C J J fun a C=>ql C F
       have bw:=bw.mono g4;obtain⟨_,C,rfl⟩:=Dd C a0 0 J;obtain⟨_,C,rfl⟩:=Dd C a0 1 J;obtain⟨_,C,rfl⟩:=Dd C a0 2 J;obtain⟨_,C,rfl⟩:=Dd C a0 3 J;obtain⟨_,C,rfl⟩:=Dd C a0 4 J;obtain⟨_,C,rfl⟩:=Dd C a0 5 J;obtain⟨_,C,b8,rfl,cz⟩:=Dd C a0 6 J;obtain⟨_,C,rfl⟩:=Dd C a0 7 J;obtain⟨_,C,rfl⟩:=Dd C a0 8 J;refine id (dN (j:=M) (d:=3) T37 F (i:=4) J co J dn j0 j2 J C J J J J fun i3 a w cp iu F C=>?_);rw [show (Value.cells _).toList= [(.slice (some ⟨b8,0,none⟩) 1 1)] from rfl] at cp;refine aa (wp_seq (ab (Lm J C fun a C=>?_)));refine lin J (aE C J J fun a C=>?_);refine lin J (ac (f:=1) (o2:=1) T133 T131 J J J J C J J fun a C=>?_);refine lin J (ae (v:=(.slice A xs.length c)) T131 J C J (F.blkL 3 J) J J fun a C=>?_);refine Lm J C fun a C=>?_;obtain⟨di,hb,hq,gm,iv,ii, -⟩:=cp.at_ (j:=M) j0;have dp:(A: Option Addr)=some ⟨di,0,none⟩:=by injection gm
       refine lin J (az (b:=di) (o:=0) (j:=M) T131.und T140 dp C J J j0 j0 J fun a C=>?_);refine lin J (ac (f:=5) (o2:=(0+M * 6+5)) T140 T26 J J J J C J J fun a C=>?_);refine lin J (dN (j:=M) (d:=5) T26 F (i:=4) J cp J dp j0 j2 J C J J J J fun i4 a w cq iw F C=>?_);rw [show (Value.cells _).toList= [(.slice none 0 0)] from rfl] at cq;refine wpList_nil (aa (wp_seq ?_));rw [spl_rb3 (x':=(RbV.mk (a1,PB.var [x_] []) (some ⟨b8,0,none⟩) 1 none 0)) d6 dw j2 J] at cq;have f5: AllRv eh ((xs.set a2 (RbV.mk (a4,PB.var [] X) V.A V.c a5 a7)).set M (RbV.mk (a1,PB.var [x_] []) (some ⟨b8,0,none⟩) 1 none 0)):=AllRv.set (x:=(RbV.mk (a1,PB.var [x_] []) (some ⟨b8,0,none⟩) 1 none 0)) bw ⟨(RowG.of_lit Wd.len ([x_]: List Wd) cz j1 J),RowI.nil _⟩ M;have g8:((xs.set a2 (RbV.mk (a4,PB.var [] X) V.A V.c a5 a7)).set M (RbV.mk (a1,PB.var [x_] []) (some ⟨b8,0,none⟩) 1 none 0)).map RbV.b=enB 0 (((HS.S h).set a4 (some (PB.var [] X))).set a1 (some (PB.var [x_] []))):=fN g7 gd J;have jb:((xs.set a2 (RbV.mk (a4,PB.var [] X) V.A V.c a5 a7)).set M (RbV.mk (a1,PB.var [x_] []) (some ⟨b8,0,none⟩) 1 none 0)).length=(xs.set a2 (RbV.mk (a4,PB.var [] X) V.A V.c a5 a7)).length:=List.length_set;refine ab (Lm J C fun a C=>?_);refine Ls J C fun a C=>?_;refine Ls J C fun a C=>?_;refine wpList_nil (aa (wp_ret (ret2 J C J J ?_)));have F:=F.fd [0,0,0] J;have ax: h.bind v_ x_=((h.setB T.n.toNat (.var [] (addG av Y))).setB a1 (.var [x_] []),([],0)):=bind_var bm ce cd d2 (fb c8) (by rw [<- ca];omega);rw [ax];refine⟨_,_,_,none,0,rfl,RowI.nil _,RK.of (by simp only [List.length_set]) (by simp only [HS.setB,List.length_set]) cq f5 ?_,F⟩;rw [g8,ca,show T.n.toNat=a4 by omega];rfl
   ·have cv:=F;refine bD ba [FcV (pB b4),FcV (iV T.tag),FcV (.bool false),FcV (.bool false),FcV undef,FcV undef,FcV undef,FcV undef,FcV undef,FcV undef,FcV undef,FcV undef,FcV undef,FcV undef,FcV undef,FcV (.bool false)] (N:=129) (E:= [(0,(pB r)),(5,(pB a8)),(8,(iV ((M: Nat): Int))),(10,(pB b4))]) mixed J Mq F (C.pk J) (.c4 ?_ ?_ ?_ ?_ (.c4 ?_ ?_ ?_ ?_ (.c4 ?_ ?_ ?_ ?_ (.c4 ?_ ?_ ?_ ?_ (.nil))))) (fun a w h0 g5 F C a0=>?_)
    ·refine Qz J fun a w F C G=>?_;exact ac (f:=0) (o2:=0) T35 T3 J J J J C J J fun a C=>qe C F
    ·refine Qz1 0 J fun a w F C G=>?_;exact ae (v:=(iV T.tag)) T3 J C J (F.blkL 0 J) J J fun a C=>qe C F
    ·refine Qz1 1 J fun a w F C G=>?_;refine id (aJ (i:=T.tag) (j:=4) C J J J fun a C=>?_);rw [decide_eq_false bf] at C;exact qe C F
    ·refine Qz1 2 J fun a w F C G=>?_;exact aq C J J fun a C=>qe C F
    ·intro a w O I F C G;subst I;obtain⟨_,C,rfl⟩:=G.g C 3 J;rw [if_neg (ap J J C J J J)];intro d b1;rfl
    ·intro a w O I F C G;subst I;obtain⟨_,C,rfl⟩:=G.g C 4 J;obtain⟨_,C,rfl⟩:=G.g C 3 J;rw [if_neg (ap J J C J J J)];intro d b1;rfl
    ·intro a w O I F C G;subst I;obtain⟨_,C,rfl⟩:=G.g C 3 J;rw [if_neg (ap J J C J J J)];intro d b1;rfl
    ·intro a w O I F C G;subst I;obtain⟨_,C,rfl⟩:=G.g C 6 J;obtain⟨_,C,rfl⟩:=G.g C 3 J;rw [if_neg (ap J J C J J J)];intro d b1;rfl
    ·intro a w O I F C G;subst I;obtain⟨_,C,rfl⟩:=G.g C 7 J;obtain⟨_,C,rfl⟩:=G.g C 3 J;rw [if_neg (ap J J C J J J)];intro d b1;rfl
    ·intro a w O I F C G;subst I;obtain⟨_,C,rfl⟩:=G.g C 8 J;obtain⟨_,C,rfl⟩:=G.g C 3 J;rw [if_neg (ap J J C J J J)];intro d b1;rfl
    ·intro a w O I F C G;subst I;obtain⟨_,C,rfl⟩:=G.g C 3 J;rw [if_neg (ap J J C J J J)];intro d b1;rfl
    ·intro a w O I F C G;subst I;obtain⟨_,C,rfl⟩:=G.g C 9 J;obtain⟨_,C,rfl⟩:=G.g C 10 J;obtain⟨_,C,rfl⟩:=G.g C 3 J;rw [if_neg (ap J J C J J J)];intro d b1;rfl
    ·intro a w O I F C G;subst I;obtain⟨_,C,rfl⟩:=G.g C 11 J;obtain⟨_,C,rfl⟩:=G.g C 3 J;rw [if_neg (ap J J C J J J)];intro d b1;rfl
    ·intro a w O I F C G;subst I;obtain⟨_,C,rfl⟩:=G.g C 12 J;obtain⟨_,C,rfl⟩:=G.g C 3 J;rw [if_neg (ap J J C J J J)];intro d b1;rfl
    ·intro a w O I F C G;subst I;obtain⟨_,C,rfl⟩:=G.g C 5 J;obtain⟨_,C,rfl⟩:=G.g C 13 J;obtain⟨_,C,rfl⟩:=G.g C 3 J;rw [if_neg (ap J J C J J J)];intro d b1;rfl
    ·refine Qz1 3 J fun a w F C G=>?_;obtain⟨_,C,rfl⟩:=G.g C 14 J;exact ak C J J J fun a C=>qe C F
    subst g5;obtain⟨_,C,rfl⟩:=Dd C a0 15 J;refine aa (ag C J (wp_skip (aa (wp_seq (ab (Lm J C fun a C=>?_))))));refine lin J (aE C J J fun a C=>?_);refine lin J (ac (f:=1) (o2:=1) T133 T131 J J J J C J J fun a C=>?_);refine lin J (ae (v:=(.slice A xs.length c)) T131 J C J (F.blkL 3 J) J J fun a C=>?_);refine Lm J C fun a C=>?_;obtain⟨ad,cj,hc,et,bp,gn,fu,fp⟩:=Row.getG RbV.len j2 a3 (j:=M) j0;have f6:(A: Option Addr)=some ⟨cj,0,none⟩:=by injection gn
    obtain⟨jr,gc⟩:=AllRv.at_ Z bp;refine lin J (az (b:=cj) (o:=0) (j:=M) T131.und T140 f6 C J J j0 j0 J fun a C=>?_);have c7: ad.b=(a1,PB.var [] Y):=by rw [Option.some.inj (bp.symm.trans bh)];exact bk
    have c6: ad.b.2.hooks=Y:=by rw [c7];rfl
    have fh: ad.b.2.hooks.length<=4000:=by rw [c6];exact bg
    refine lin J (ac (f:=5) (o2:=(0+M * 6+5)) T140 T26 J J J J C J J fun a C=>?_);refine lin J (ae (v:=(.slice ad.A2 ad.b.2.hooks.length ad.c2)) T26 J C J (F.blkL 4 (b:=cj) (o:=.cells et 140 (0,0)) (by rw [<- fu];rfl)) (fp 5 _ J) J fun a C=>?_);refine Ls J C fun a C=>?_;refine wpList_nil (aa (wp_seq (wp_seq ?_)));have b2:=gc;simp only [c6] at C b2;refine ab (lin J (ac (f:=0) (o2:=0) T35 T3 J J J J C J J fun a C=>?_));refine lin J (ae (v:=(iV T.tag)) T3 J C J (F.blkL 0 J) J J fun a C=>?_);refine lin J (aJ (i:=T.tag) (j:=4) C J J J fun a C=>?_);rw [decide_eq_false bf] at C;refine wpList_nil (aa (ag C J (wp_skip (aa (wp_seq (ab (Lm J C fun a C=>?_)))))));refine lin J (aE C J J fun a C=>?_);refine lin J (ac (f:=1) (o2:=1) T133 T131 J J J J C J J fun a C=>?_);refine lin J (ae (v:=(.slice A xs.length c)) T131 J C J (F.blkL 3 J) J J fun a C=>?_);refine Lm J C fun a C=>?_;obtain⟨gx,dj,hd,hw,e9,go,ix,ij⟩:=Row.getG RbV.len j2 a3 (j:=M) j0;have dq:(A: Option Addr)=some ⟨dj,0,none⟩:=by injection go
    obtain⟨jt,jk⟩:=AllRv.at_ Z e9;obtain rfl: ad=gx:=Option.some.inj (bp.symm.trans e9);refine lin J (az (b:=dj) (o:=0) (j:=M) T131.und T140 dq C J J j0 j0 J fun a C=>?_);have c7: ad.b=(a1,PB.var [] Y):=by rw [Option.some.inj (bp.symm.trans bh)];exact bk
    have c6: ad.b.2.hooks=Y:=by rw [c7];rfl
    have fh: ad.b.2.hooks.length<=4000:=by rw [c6];exact bg
    refine lin J (ac (f:=4) (o2:=(0+M * 6+4)) T140 T4 J J J J C J J fun a C=>?_);refine lin J (dN (j:=M) (d:=4) T4 F (i:=4) J a3 J dq j0 j2 J C J J J J fun i5 a w cr iy F C=>?_);rw [show (Value.cells _).toList= [(.bool true)] from rfl] at cr;refine wpList_nil (aa (wp_seq ?_));have cv:=F;obtain⟨bt,hg,hx,gp,iz,ik, -⟩:=cr.at_ (j:=M) j0;have dr:(A: Option Addr)=some ⟨bt,0,none⟩:=by injection gp
    refine cM rel_le _ J [FcV (pB r),FcV (pB r),FcV (.pointer (some ⟨r,1,none⟩)),FcV (.slice A xs.length c),FcV (iV ((M: Nat): Int)),FcV (.agg #[(iV x_.tag),(iV x_.n),(.string x_.s),(.bool x_.one)]),fun H v=> ∃ b,v=.slice (some ⟨b,0,none⟩) 1 1/\H b=some (.cells #[(iV x_.tag),(iV x_.n),(.string x_.s),(.bool x_.one)] 35 (0,0)),FcV (.pointer (some ⟨bt,0+M * 6,none⟩)),FcV (.pointer (some ⟨bt,(0+M * 6+3),none⟩))] (N:=129) (E:= [(0,(pB r)),(5,(pB a8)),(8,(iV ((M: Nat): Int))),(11,(.slice ad.A2 Y.length ad.c2))]) mixed J J J (M1 (M1 (M1 (M1 (M1 (M1 (Monos.cons (fun _ _ _ hl ⟨b,h,cy⟩=>⟨b,h,hl _ _ cy⟩) (M1 (M1 (Monos.nil)))))))))) F (C.pk J) (.c4 ?_ ?_ ?_ ?_ (.c4 ?_ ?_ ?_ ?_ (.cons ?_ (.nil)))) (fun a w ei e1 F C a0=>?_)
    ·refine Qy J fun a w O I F C G=>?_;exact aq C J J fun a C=>ql C F
    ·refine Qy1 0 J fun a w O I F C G=>?_;exact aE C J J fun a C=>ql C F
    ·refine Qy1 1 J fun a w O I F C G=>?_;exact ac (f:=1) (o2:=1) T133 T131 J J J J C J J fun a C=>ql C F
    ·refine Qy1 2 J fun a w O I F C G=>?_;exact ae (v:=(.slice A xs.length c)) T131 J C J (F.blkL 3 J) J J fun a C=>ql C F
    ·refine Qy J fun a w O I F C G=>?_;exact aq C J J fun a C=>ql C F
    ·refine Qy J fun a w O I F C G=>?_;exact am (vs:= [(iV x_.tag),(iV x_.n),(.string x_.s),(.bool x_.one)]) T35 J C J (F.blkL 1 J) J (aj J) J fun a C=>ql C F
    ·refine Qy1 5 J fun a w O I F C G=>?_;refine id (a6 (vs:= dc) (cells:= [(iV x_.tag),(iV x_.n),(.string x_.s),(.bool x_.one)]) T37.und T35 F C (C.evp J) J J J J fun b9 a w F C=>?_);obtain⟨h3,F,g6,d0⟩:=F.give;exact qdone g6 C F ⟨_,rfl,d0⟩
    ·refine Qy1 3 J fun a w O I F C G=>?_;obtain⟨_,C,rfl⟩:=G.g C 4 J;exact az (b:=bt) (o:=0) (j:=M) T131.und T140 dr C J J j0 j0 J fun a C=>ql C F
    ·refine Qy1 7 J fun a w O I F C G=>?_;exact ac (f:=3) (o2:=(0+M * 6+3)) T140 T37 J J J J C J J fun a C=>ql C F
    have Z:=Z.mono e1;have b2:=b2.mono e1;obtain⟨_,C,rfl⟩:=Dd C a0 0 J;obtain⟨_,C,rfl⟩:=Dd C a0 1 J;obtain⟨_,C,rfl⟩:=Dd C a0 2 J;obtain⟨_,C,rfl⟩:=Dd C a0 3 J;obtain⟨_,C,rfl⟩:=Dd C a0 4 J;obtain⟨_,C,rfl⟩:=Dd C a0 5 J;obtain⟨_,C,b9,rfl,d0⟩:=Dd C a0 6 J;obtain⟨_,C,rfl⟩:=Dd C a0 7 J;obtain⟨_,C,rfl⟩:=Dd C a0 8 J;refine id (dN (j:=M) (d:=3) T37 F (i:=4) J cr J dr j0 j2 J C J J J J fun i6 a w ct j3 F C=>?_);rw [show (Value.cells _).toList= [(.slice (some ⟨b9,0,none⟩) 1 1)] from rfl] at ct;refine aa (wp_seq (ab (Lm J C fun a C=>?_)));refine lin J (aE C J J fun a C=>?_);refine lin J (ac (f:=1) (o2:=1) T133 T131 J J J J C J J fun a C=>?_);refine lin J (ae (v:=(.slice A xs.length c)) T131 J C J (F.blkL 3 J) J J fun a C=>?_);refine Lm J C fun a C=>?_;obtain⟨dk,hh,hy,gq,j5,il, -⟩:=ct.at_ (j:=M) j0;have ds:(A: Option Addr)=some ⟨dk,0,none⟩:=by injection gq
    refine lin J (az (b:=dk) (o:=0) (j:=M) T131.und T140 ds C J J j0 j0 J fun a C=>?_);refine lin J (ac (f:=5) (o2:=(0+M * 6+5)) T140 T26 J J J J C J J fun a C=>?_);refine lin J (dN (j:=M) (d:=5) T26 F (i:=4) J ct J ds j0 j2 J C J J J J fun i7 a w cu j6 F C=>?_);rw [show (Value.cells _).toList= [(.slice none 0 0)] from rfl] at cu;refine wpList_nil (aa (wp_seq ?_));rw [spl_rb3 (x':=(RbV.mk (a1,PB.var [x_] []) (some ⟨b9,0,none⟩) 1 none 0)) bp c7 j2 J] at cu;have f7: AllRv ei (xs.set M (RbV.mk (a1,PB.var [x_] []) (some ⟨b9,0,none⟩) 1 none 0)):=AllRv.set (x:=(RbV.mk (a1,PB.var [x_] []) (some ⟨b9,0,none⟩) 1 none 0)) Z ⟨(RowG.of_lit Wd.len ([x_]: List Wd) d0 j1 J),RowI.nil _⟩ M;have g9:(xs.set M (RbV.mk (a1,PB.var [x_] []) (some ⟨b9,0,none⟩) 1 none 0)).map RbV.b=enB 0 ((HS.S h).set a1 (some (PB.var [x_] []))):=fN a9 cc J;have jc:(xs.set M (RbV.mk (a1,PB.var [x_] []) (some ⟨b9,0,none⟩) 1 none 0)).length=xs.length:=List.length_set;refine ab (Lm J C fun a C=>?_);refine Ls J C fun a C=>?_;refine Ls J C fun a C=>?_;refine wpList_nil (aa (wp_ret (ret2 J C J J ?_)));have F:=F.fd [0,0,0] J;have ax: h.bind v_ x_=(h.setB a1 (.var [x_] []),(Y,0)):=by rw [bind_lit bm ce bf,fb c8]
    rw [ax];refine⟨_,_,_,_,_,rfl,b2,RK.of (by simp only [List.length_set]) (by simp only [HS.setB,List.length_set]) cu f7 ?_,F⟩;rw [g9];rfl
end Go.Vk.Tryz
namespace Go.Vk
def FO (S: PS): Prop:= ∀(j: Nat) s l,S[j]? =some (some (.fn s l))->nmB s=true/\1<=l.length/\l.length<=16
def FOb (b: PB): Prop:= ∀ s l,b=.fn s l->nmB s=true/\1<=l.length/\l.length<=16
theorem FO.new (n: Nat): FO (HS.new n).S:=fun j s l hj=>by
 simp only [HS.new,List.getElem?_replicate] at hj
 split at hj <;> cases hj
theorem FO.set {S: PS} {a: Nat} {c: PB} (h: FO S) (hc: FOb c): FO (S.set a (some c)):=fun j s l hj=>by
 rcases bL hj with ⟨_,e⟩ |⟨_,h4⟩
 ·exact hc s l (Option.some.inj e).symm
 ·exact h j s l h4
theorem FO.del {S: PS} {a: Nat} (h: FO S): FO (S.set a none):=fun j s l hj=>by
 rcases bL hj with ⟨_,e⟩ |⟨_,h4⟩
 ·cases e
 ·exact h j s l h4
theorem FO.place {h: HS} {b: PB} (hf: FO h.S) (hb: FOb b): FO (h.place b).1.S:=by
 unfold HS.place;dsimp only
 split
 ·exact hf
 ·exact hf.set hb
theorem FO.clear {h: HS} {a: Nat} (hf: FO h.S): FO (h.clear a).S:=by
 unfold HS.clear
 split
 ·exact hf.del
 ·exact hf
theorem eF (to: List Wd) (hk: List Int): FOb (.var to hk):=fun _ _ e=>by cases e
theorem d4 (l: List Wd): FOb (.vec l):=fun _ _ e=>by cases e
section
variable {h: HS}
theorem FO.fun_ {s: ByteArray} {l: List Wd} (hf: FO h.S): FO (h.fun_ s l).1.S:=by
 unfold HS.fun_
 split
 ·exact hf
 ·rename_i h1
  split
  ·exact hf
  ·split
   ·exact hf
   ·rename_i h3
    exact hf.place fun s' l' e=>by
     injection e with e1 e2
     subst e1 e2;exact⟨by simpa using h1,by omega,by omega⟩
theorem FO.vec {l: List Wd} (hf: FO h.S): FO (h.vec l).1.S:=by
 unfold HS.vec
 repeat' split
 all_goals first | exact hf | exact hf.place (d4 _)
theorem FO.free {w: Wd} (hf: FO h.S): FO (h.free w).1.S:=by
 unfold HS.free
 repeat' split
 all_goals first | exact hf | exact hf.clear
theorem FO.bind {v x: Wd} (hf: FO h.S): FO (h.bind v x).1.S:=by
 unfold HS.bind;dsimp only
 repeat' split
 all_goals first | exact hf | exact hf.set (eF _ _) | exact(hf.set (eF _ _)).set (eF _ _)
theorem FO.update {w x: Wd} {i: Int} (hf: FO h.S): FO (h.update w i x).1.S:=by
 unfold HS.update;dsimp only
 repeat' split
 all_goals first | exact hf | exact hf.set (d4 _) | exact(hf.place (d4 _)).set (d4 _)
end
theorem nxt_word {S: PS} {w z: Wd} (hz: wordS S z=true): wordS S (nxtW w z)=true:=by
 unfold nxtW
 split
 ·rename_i hrf
  unfold wordS at hz ⊢;unfold refB at hrf;simp only [Bool.or_eq_true,decide_eq_true_eq] at hrf;rw [if_neg j0,if_neg j0,if_neg j0] at hz;rw [if_neg (by show ¬ z.tag=1;omega),if_neg (by show ¬ z.tag=2;omega),if_neg (by show ¬ z.tag=3;omega)];exact hz
 ·exact hz
theorem Fol.word {S: PS} (hr: ∀ z ∈ refsOf S,wordS S z=true) {w x: Wd} (h: Fol S w x) (hw: wordS S w=true): wordS S x=true:=by
 induction h with
 | stop _=>exact hw
 | next h _ ih=>exact ih (nxt_word (hr _ (refsOf_mem.2 ⟨_,_,(aD h).2.2.2.1,List.mem_cons_self⟩)))
theorem nodes_of {Ts: List Tm} (h: ∀ T ∈ Ts,nodesR T=true): nodesRL Ts=true:=by
 induction Ts with
 | nil=>rw [nodesRL]
 | cons T Ts ih=>rw [nodesRL,h T List.mem_cons_self,ih fun t ht=>h t (List.mem_cons_of_mem _ ht)];rfl
theorem gp {f: Int->Wd->Int × Option Tm} {d: Nat} (hf: ∀ l r w T,f l w=(r,some T)->(T.sz: Int)=l - r/\dep T<=d): ∀ {ws: List Wd} {l r: Int} {Ts: List Tm},rdL f l ws=(r,some Ts)->(Tm.szL Ts: Int)=l - r/\depL Ts<=d
 | [],l,r,Ts,h=>by
  rw [rdL] at h;injection h with h1 h
  obtain rfl:=Option.some.inj h;rw [Tm.szL,depL];omega
 | w::ws,l,r,Ts,h=>by
  rw [rdL] at h;dsimp only at h
  cases hq: f l w with
  | mk r1 o =>
   rw [hq] at h
   cases o with
   | none=>cases h
   | some T1 =>
    dsimp only at h
    cases hq2: rdL f r1 ws with
    | mk r2 o2 =>
     rw [hq2] at h
     cases o2 with
     | none=>cases h
     | some Us =>
      injection h with h1 h
      obtain rfl:=Option.some.inj h;have h2:=hf _ _ _ _ hq;have h3:=gp hf hq2;have h1: r2=r:=h1;rw [Tm.szL,depL];omega
theorem gx {S: PS}: ∀(d: Nat) (l r: Int) (w: Wd) (T: Tm),rdS S d l w=(r,some T)->(T.sz: Int)=l - r/\dep T<=d
 | 0,l,r,w,T,h=>by rw [rdS] at h;cases h
 | d+1,l,r,w,T,h=>by
  rw [rdS] at h;dsimp only at h
  split at h
  ·cases h
  ·split at h
   ·injection h with h1 h
    obtain rfl:=Option.some.inj h;rw [dH,dq,Tm.szL,depL];omega
   ·split at h
    ·injection h with h1 h
     obtain rfl:=Option.some.inj h;rw [dH,dq,Tm.szL,depL];omega
    ·split at h
     ·injection h with h1 h
      obtain rfl:=Option.some.inj h;rw [dH,dq,Tm.szL,depL];omega
     ·split at h
      ·cases h
      ·injection h with h1 h
       obtain rfl:=Option.some.inj h;rw [dH,dq,Tm.szL,depL];omega
      ·rename_i s ws hb
       cases hq: rdL (rdS S d) (l - 1) ws with
       | mk r2 o2 =>
        rw [hq] at h
        cases o2 with
        | none=>cases h
        | some Ts =>
         injection h with h1 h
         obtain rfl:=Option.some.inj h;have h2:=gp (d:=d) (fun l r w T hw=>gx d l r w T hw) hq;have h1: r2=r:=h1;rw [dH,dq];omega
      ·rename_i ws hb
       cases hq: rdL (rdS S d) (l - 1) ws with
       | mk r2 o2 =>
        rw [hq] at h
        cases o2 with
        | none=>cases h
        | some Ts =>
         injection h with h1 h
         obtain rfl:=Option.some.inj h;have h2:=gp (d:=d) (fun l r w T hw=>gx d l r w T hw) hq;have h1: r2=r:=h1;rw [dH,dq];omega
end Go.Vk
namespace Go.Vk
section
variable {a: Int} {U: Tm}
theorem nodesR_top {p: Tm} (h: nodesR p=true): nodeR p=true:=by
 rw [bF,Bool.and_eq_true] at h;exact h.1
theorem nodesR_sub {p q: Tm} (h: nodesR p=true) {k: Nat} (hq: p.l[k]? =some q): nodesR q=true:=by
 rw [bF,Bool.and_eq_true,bT,List.all_eq_true] at h;exact h.2 q (List.mem_of_getElem? hq)
end
theorem nodeR_ss {t: Tm} (h: nodeR t=true): t.s.size<=2000000:=by
 unfold nodeR at h
 repeat' split at h
 all_goals first |(cases h;done) | simp only [Bool.and_eq_true,decide_eq_true_eq,nameB] at h
 ·rw [h.1.2];decide
 ·rw [h.1.2];decide
 ·omega
 ·omega
 ·omega
 ·rw [h.1.2];decide
theorem nodesR_str: ∀ t: Tm,nodesR t=true->strB t=true:=by
 refine Tm.ind fun t ih h=>?_;have h1:=nodeR_ss (nodesR_top h);have h2: strBL t.l=true:=by
  rw [ex,List.all_eq_true];intro u hu;obtain⟨i,hi⟩:=List.getElem?_of_mem hu;exact ih i u hi (nodesR_sub h hi)
 cases t with
 | mk k n s l =>
  rw [strB,Bool.and_eq_true,decide_eq_true_eq];exact⟨h1,h2⟩
theorem isR_str {t: Tm} (h: isR t=true): strB t=true:=nodesR_str _ (cF h).2.2
section
variable {x: StV} {h h': HS} {ws ws' bs bs': List Wd} {w: Wd}
end
end Go.Vk
namespace Go.Vk
def LW (w: Wd): Prop:=(refB w=true/\w.s=⟨#[]⟩)\/wordS [] w=true
def LV (S: PS): Prop:= ∀(j: Nat) (b: PB),S[j]? =some (some b)->∀ w ∈ b.words,LW w
section
variable {S: PS} {w x y: Wd} {d: Nat} {left: Int} {b: PB}
theorem word_lit (h: w.tag=1\/w.tag=2\/w.tag=3) (S S': PS): wordS S w=wordS S' w:=by
 unfold wordS
 by_cases h1: w.tag=1
 ·rw [if_pos h1,if_pos h1]
 ·by_cases h2: w.tag=2
  ·rw [if_neg h1,if_neg h1,if_pos h2,if_pos h2]
  ·rw [if_neg h1,if_neg h1,if_neg h2,if_neg h2,if_pos j0,if_pos j0]
theorem ef (h: wordS S w=true):(w.tag=1\/w.tag=2\/w.tag=3)\/(refB w=true/\(w.tag=4\/w.tag=5\/w.tag=6)):=by
 by_cases h0: w.tag=1\/w.tag=2\/w.tag=3
 ·exact .inl h0
 ·right
  unfold wordS at h;rw [if_neg j0,if_neg j0,if_neg j0,Bool.and_eq_true] at h;refine⟨h.1,?_⟩;have h:=h.1;unfold refB at h;simp only [Bool.or_eq_true,decide_eq_true_eq] at h;omega
theorem LW.of (h: wordS S w=true): LW w:=by
 rcases ef h with h1 | h1
 ·exact .inr (by rw [word_lit h1 [] S];exact h)
 ·obtain⟨_,_,_,_,_,_,_,ha,_⟩:=cP h h1.1;exact .inl ⟨h1.1,(aD ha).2.2.1⟩
theorem LW.lit (h: LW w) (h1: w.tag=1\/w.tag=2\/w.tag=3): wordS S w=true:=by
 rcases h with ⟨h,_⟩ | h
 ·unfold refB at h;simp only [Bool.or_eq_true,decide_eq_true_eq] at h;omega
 ·rw [word_lit h1 S []];exact h
theorem LW.tag (h: LW w):(w.tag=1\/w.tag=2\/w.tag=3)\/(refB w=true/\(w.tag=4\/w.tag=5\/w.tag=6)):=by
 rcases h with ⟨h,_⟩ | h
 ·right
  refine⟨h,?_⟩;unfold refB at h;simp only [Bool.or_eq_true,decide_eq_true_eq] at h;omega
 ·exact ef h
theorem LW.nxt (h: LW x): LW (nxtW w x):=by
 unfold nxtW
 split
 ·rename_i hr
  refine .inl ⟨hr,?_⟩
  rcases h with h | h
  ·exact h.2
  ·have h1:=LW.lit (S:= []) (.inr h)
   rcases ef h with h2 | h2
   ·unfold refB at hr;simp only [Bool.or_eq_true,decide_eq_true_eq] at hr;omega
   ·obtain⟨_,j,_,_,_,_,hj,_,_⟩:=cP h h2.1;simp at hj
 ·exact h
theorem LV.fol (hV: LV S): ∀(k: Nat) (w: Wd),LW w->(folS S k w).2=true->LW (folS S k w).1
 | 0,w,h,e=>by rw [folS] at e;cases e
 | k+1,w,h,e=>by
  rw [folS] at e ⊢
  split at e
  ·rename_i x ys hk ha
   exact LV.fol hV k _ (LW.nxt (hV _ _ (aD ha).2.2.2.1 x List.mem_cons_self)) e
  ·exact h
theorem fol_none (h: atS S w=none): followS S w=(w,true):=by
 unfold followS;rw [folS,h]
theorem fx (h:(dS S w).2=0):(followS S w).2=true/\(followS S w).1=(dS S w).1/\wordS S (dS S w).1=true:=by
 rw [eX] at h ⊢;have h9:=(ed h).1;unfold valueS at h h9 ⊢
 split at h
 ·cases h
 ·rename_i h1
  rw [if_neg h1] at h9 ⊢;dsimp only at h h9 ⊢
  split at h
  ·cases h
  ·rename_i h2
   rw [if_neg h2] at h9 ⊢
   split at h
   ·cases h
   ·rename_i h3
    rw [if_neg h3] at h9 ⊢;exact⟨by simpa using h2,rfl,h9⟩
theorem fW (hV: LV S) (hw: LW w) (h: ¬(dS S w).2=0\/left - 1 < 0\/d=0): rdS S d left w=(left - 1,none):=by
 rcases h with h | h | h
 ·by_cases hs:(followS S w).2=false\/left - 1 < 0\/d=0
  ·exact da hs
  ·have hf:(followS S w).2=true:=by
    cases e:(followS S w).2 with
    | true=>rfl
    | false=>exact absurd (.inl e) hs
   obtain⟨d',rfl⟩: ∃ d',d=d'+1:=⟨d - 1,by omega⟩;have hx: LW (followS S w).1:=hV.fol _ _ hw hf;have hnone: atS S (followS S w).1=none/\¬((followS S w).1.tag=1\/(followS S w).1.tag=2\/(followS S w).1.tag=3):=by
    rw [eX] at h;unfold valueS at h
    split at h
    ·rename_i h1
     have h1: wordS S w=false:=by simpa using h1
     have h2:=gc h1;rw [fol_none h2];refine⟨h2,fun ht=>?_⟩;rw [LW.lit hw ht] at h1;cases h1
    ·dsimp only at h;rw [if_neg (by rw [hf];simp)] at h
     split at h
     ·rename_i h3
      have h3: wordS S (followS S w).1=false:=by simpa using h3
      exact⟨gc h3,fun ht=>by rw [LW.lit hx ht] at h3;cases h3⟩
     ·exact absurd J h
   rw [bN hf j0 j0 j0 j0,hnone.1]
 ·exact da (.inr (.inl h))
 ·exact da (.inr (.inr h))
section
variable (hv:(dS S w).2=0) (hl: 0<=left - 1)
include hv hl
theorem rv_int (h1:(dS S w).1.tag=1): rdS S (d+1) left w=(left - 1,some (.mk 2 (dS S w).1.n ⟨#[]⟩ [])):=by
 obtain⟨hf,he,_⟩:=fx hv;rw [<- he] at h1 ⊢;exact d9 hf hl h1
theorem rv_atom (h1:(dS S w).1.tag=2): rdS S (d+1) left w=(left - 1,some (.mk 3 0 (dS S w).1.s [])):=by
 obtain⟨hf,he,_⟩:=fx hv;rw [<- he] at h1 ⊢;exact dw hf hl j0 h1
theorem rv_str (h1:(dS S w).1.tag=3): rdS S (d+1) left w=(left - 1,some (.mk 4 0 (dS S w).1.s [])):=by
 obtain⟨hf,he,_⟩:=fx hv;rw [<- he] at h1 ⊢;exact ea hf hl j0 j0 h1
theorem rv_var (h1:(dS S w).1.tag=4): rdS S (d+1) left w=(left - 1,some (.mk 1 (dS S w).1.n ⟨#[]⟩ [])):=by
 obtain⟨hf,he,hw⟩:=fx hv;rw [eX] at hv he h1 hw ⊢;obtain⟨hk,ha⟩:=(ed hv).2 h1;rw [<- he] at h1 ha ⊢;rw [bN hf hl j0 j0 j0,ha]
theorem rv_blk (ha: atS S (dS S w).1=some b) (ht: ¬(dS S w).1.tag=4): rdS S (d+1) left w=((rdL (rdS S d) (left - 1) b.words).1,(rdL (rdS S d) (left - 1) b.words).2.map (.mk (dS S w).1.tag 0 b.nm ·)):=by
 obtain⟨hf,he,_⟩:=fx hv;have h9:=(aD ha).2.2.2.2;rw [<- he] at ha ht h9 ⊢;have h8: b.tag=4\/b.tag=5\/b.tag=6:=by cases b <;> simp [PB.tag]
 rw [bN hf hl j0 j0 j0,ha]
 cases b with
 | var to hk=>exact absurd h9 ht
 | fn s ws=>rw [h9];rfl
 | vec ws=>rw [h9];rfl
end
end
theorem Fol.lw {S: PS} (hV: LV S) {w x: Wd} (h: Fol S w x) (hw: LW w): LW x:=by
 induction h with
 | stop h=>exact hw
 | next h hf ih=>exact ih (LW.nxt (hV _ _ (aD h).2.2.2.1 _ List.mem_cons_self))
theorem RdE.termV {S: PS} (hV: LV S) (hf: FO S) (hwl: ∀(j: Nat) (b: PB),S[j]? =some (some b)->j+b.size<=S.length/\b.words.length<=64) (hSl: S.length<=65536): ∀(d: Nat) (w: Wd) (T: Tm),LW w->RdE S d w T->nodesR T=true:=by
 intro d
 induction d with
 | zero=>intro w T hw hr;cases hr
 | succ d ih =>
  intro w T hw hr
  cases hr with
  | int hF ht =>
   have hx:=LW.lit (S:=S) (hF.lw hV hw) (.inl ht);unfold wordS at hx;rw [if_pos ht] at hx;simp only [Bool.and_eq_true,decide_eq_true_eq] at hx;rw [nodesR,nodesRL,nodeR_k2];simp [hx.1.2,hx.2]
  | atom hF ht =>
   have hx:=LW.lit (S:=S) (hF.lw hV hw) (.inr (.inl ht));unfold wordS at hx;rw [if_neg j0,if_pos ht] at hx;simp only [Bool.and_eq_true] at hx;rw [nodesR,nodesRL,d7,ff hx.2];simp
  | str hF ht =>
   have hx:=LW.lit (S:=S) (hF.lw hV hw) (.inr (.inr ht));unfold wordS at hx;rw [if_neg j0,if_neg j0,if_pos ht] at hx;simp only [Bool.and_eq_true,decide_eq_true_eq] at hx;rw [nodesR,nodesRL,nodeR_k4];simp [hx.2]
  | var hF ht =>
   rename_i x hk
   have h1:=(aD ht).1;have h2:=(aD ht).2.1;have h4:=vr_ok (n:=100000) (i:=x.n) h1 j0 j0;exact(cF (gw h4)).2.2
  | fn hF ht hl hr =>
   rename_i n s ws Ts
   have hj:=(aD ht).2.2.2.1;obtain⟨h1,h2,h3⟩:=hf _ _ _ hj;rw [nodesR,nodeR_k5,ff h1,nodes_of fun T hT=>by
    obtain⟨i,hi⟩:=List.getElem?_of_mem hT;have hlt:=(List.getElem?_eq_some_iff.1 hi).1;exact ih _ T (hV _ _ hj _ (List.getElem_mem (l:=ws) (hl ▸ hlt))) (hr i _ T (List.getElem?_eq_getElem (hl ▸ hlt)) hi)]
   rw [hl] at h2 h3;simp;omega
  | vec hF ht hl hr =>
   rename_i n ws Ts
   have hj:=(aD ht).2.2.2.1;have h64: ws.length<=64:=(hwl _ _ hj).2;rw [nodesR,nodeR_k6,nodes_of fun T hT=>by
    obtain⟨i,hi⟩:=List.getElem?_of_mem hT;have hlt:=(List.getElem?_eq_some_iff.1 hi).1;exact ih _ T (hV _ _ hj _ (List.getElem_mem (l:=ws) (hl ▸ hlt))) (hr i _ T (List.getElem?_eq_getElem (hl ▸ hlt)) hi)]
   rw [hl] at h64;simp;omega
theorem read_termV {S: PS} (hV: LV S) (hf: FO S) (hwl: ∀(j: Nat) (b: PB),S[j]? =some (some b)->j+b.size<=S.length/\b.words.length<=64) (hSl: S.length<=65536) {w: Wd} (hw: LW w) {rr: Int × Option Tm} (h: rdS S 600 4000 w=rr) (ho: rr.2.isSome=true): isR (tmO rr.2)=true/\strB (tmO rr.2)=true/\(tmO rr.2).sz<=4000:=by
 obtain⟨r,o⟩:=rr
 cases o with
 | none=>cases ho
 | some T =>
  have h2:=gx _ _ _ _ _ h;have h3:=cZ S 600 4000 w T (by rw [h]);rw [h] at h3;have h3: 0<=r/\r < 4000:=h3;have h4: isR T=true:=fL j0 h2.2 (RdE.termV hV hf hwl hSl _ _ _ hw (rd_E _ _ _ _ _ h));exact⟨h4,isR_str h4,by show T.sz<=4000;omega⟩
end Go.Vk
namespace Go.Vk.Tryz
open Go.RowKit
set_option maxHeartbeats 4000000 in
theorem c_rread {r l_: Nat} {S: PS} {es eb: Ent} (hSl: S.length<=65536) (hLV: LV S) (hwl: ∀(j: Nat) (b: PB),S[j]? =some (some b)->j+b.size<=S.length/\b.words.length<=64) (hwz: ∀(j: Nat) (b: PB),S[j]? =some (some b)->∀ w ∈ b.words,w.s.size<=2000000): ∀(d: Nat) (left: Int) (x: Wd) (w0: World) (H: PHeap),Inv w0 H ((some l_,.cells #[.int .i64 left] 3 (0,0)):: [es,eb])->RK r S H es eb->d<=600->0<=left/\left<=4000->LW x->x.s.size<=2000000->Calls prog 131 #[(pB r),(.agg #[(iV x.tag),(iV x.n),(.string x.s),(.bool x.one)]),(iV (601 - (d: Int))),(pB l_)] w0 (fun e w'=> ∃ H' A c,e=.returned (.tuple #[tv (tmO (rdS S d left x).2) A c,.bool (rdS S d left x).2.isSome])/\RowT H' A c (tmO (rdS S d left x).2).l/\Step w0 H ((some l_,.cells #[.int .i64 left] 3 (0,0)):: [es,eb]) w' H' ((some l_,.cells #[.int .i64 (rdS S d left x).1] 3 (0,0)):: [es,eb])):=by
 refine fun d=>Nat.strongRecOn d fun d ih=>?_;intro left x w0 H d8 d9 a0 hl c5 du;obtain⟨xs,A,c,rfl,bg,Z,bh⟩:=d9;have F:=Step.refl d8;have cn:=bI bh;have ec:=bn S 0;have e8:=Row.cap bg;refine enter [(pB r),(.agg #[(iV x.tag),(iV x.n),(.string x.s),(.bool x.one)]),(iV (601 - (d: Int))),(pB l_)] func131 J ntmps131 J fun a C=>?_;refine wp_seq (ab (lin J (aG (cs:= #[(iV x.tag),(iV x.n),(.string x.s),(.bool x.one)]) F C J J J fun ay a w F C=>?_)));refine lin J (aB (cs:=aZ) T41 F C J J fun X a w F C=>?_);refine Ls J C fun a C=>?_;refine wpList_nil (aa (wp_seq (ab (Lm J C fun a C=>?_))));refine lin J (am (vs:= [(iV x.tag),(iV x.n),(.string x.s),(.bool x.one)]) T35 J C J (F.blkL 1 J) J (aj J) J fun a C=>?_);have dn:=eT (x:=x) (F.tail [(some X,(.cells aZ 41 (0,0))),(some ay,(.cells #[(iV x.tag),(iV x.n),(.string x.s),(.bool x.one)] 35 (0,0))),(some l_,(.cells #[(iV left)] 3 (0,0)))]) ⟨_,_,_,rfl,bg,Z,bh⟩ hSl du hwz;refine lin J (Co func82 C J (dn) ?_);rintro e w ⟨c7,rfl,ch⟩;refine⟨_,rfl,fun a C=>?_⟩;have F:=F.frameR [(some X,(.cells aZ 41 (0,0))),(some ay,(.cells #[(iV x.tag),(iV x.n),(.string x.s),(.bool x.one)] 35 (0,0))),(some l_,(.cells #[(iV left)] 3 (0,0)))] ch;have Z:=Z.mono ch.le;refine Lm J C fun a C=>?_;refine lin J (ah (v:=(.agg #[(iV (((dS S x).1).tag)),(iV (((dS S x).1).n)),(.string (((dS S x).1).s)),(.bool (((dS S x).1).one))])) C J J J fun a C=>?_);refine lin J (ah (v:=(iV ((dS S x).2))) C J J J fun a C=>?_);refine lin J (aB (cs:= #[(iV 0),(iV 0),(.string (⟨#[]⟩)),(.bool false)]) T35 F C J J fun b1 a w F C=>?_);refine lin J (al (cs':= #[(iV (((dS S x).1).tag)),(iV (((dS S x).1).n)),(.string (((dS S x).1).s)),(.bool (((dS S x).1).one))]) T35 F (i:=0) J C J J J J J J fun a w F C=>?_);refine Ls J C fun a C=>?_;refine wpList_nil (aa (wp_seq (ab (Lm J C fun a C=>?_))));refine lin J (aE C J J fun a C=>?_);refine lin J (ae (v:=(iV left)) T3 J C J (F.blkL 3 J) J J fun a C=>?_);refine lin J (cK (i:=left) (j:=1) C J J J j0 fun a C=>?_);refine lin J (aE C J J fun a C=>?_);refine lin J (al (cs':= #[(iV (left - 1))]) T3 F (i:=3) J C J J J J J J fun a w F C=>?_);refine wpList_nil (aa (wp_seq (wp_seq (ab (Lm J C fun a C=>?_)))));refine lin J (bA (i:=((dS S x).2)) (j:=0) C J J J fun a C=>?_);refine Lm J C fun a C=>?_;refine aP (t:=30) C J (fun d4 C=>?_) (fun d4 C=>?_)
 ·refine Lf J C J J fun a C=>?_;refine Lf J C J J fun a C=>?_;refine lin J (an C J J J fun a C=>?_);refine Lm J C fun a C=>?_;refine Lf J C J J fun a C=>?_;refine Lf J C J J fun a C=>?_;refine Lf J C J J fun a C=>?_;refine Lf J C J J fun a C=>?_;refine lin J (an C J J J fun a C=>?_);refine wpList_nil (aa (ao C J (wp_seq (ab (lin J (aA (vs:= []) (cells:=lZ) T41 PL41 C (C.evp J) J J fun a C=>?_))))));refine lin J (al (cs':=aZ) T41 F (i:=1) J C J J J J J J fun a w F C=>?_);refine Ls J C fun a C=>?_;refine wpList_nil (aa (wp_ret (af (retA1 (i:=1) (cs:=aZ) J T41 J F J C J J J ?_))));have F:=F.fd [0,0,0] J;have O: rdS S d left x=(left - 1,none):=fW hLV c5 (by first | exact .inl j0 | exact .inr (.inl j0) | exact .inr (.inr j0));rw [O];exact⟨_,none,0,rfl,RowT.nil _,F⟩
 ·refine ad J C J J J (aq C J J fun a C=>?_);refine ad J C J J J (cx (i:=(601 - (d: Int))) (j:=600) C J J J fun a C=>?_);refine lin J (ak C J J J fun a C=>?_);refine Lm J C fun a C=>?_;refine ai (t:=34) C J (fun d0 C=>?_) (fun d0 C=>?_)
  ·refine Lf J C J J fun a C=>?_;refine Lf J C J J fun a C=>?_;refine Lf J C J J fun a C=>?_;refine Lf J C J J fun a C=>?_;refine lin J (an C J J J fun a C=>?_);refine wpList_nil (aa (ao C J (wp_seq (ab (lin J (aA (vs:= []) (cells:=lZ) T41 PL41 C (C.evp J) J J fun a C=>?_))))));refine lin J (al (cs':=aZ) T41 F (i:=1) J C J J J J J J fun a w F C=>?_);refine Ls J C fun a C=>?_;refine wpList_nil (aa (wp_ret (af (retA1 (i:=1) (cs:=aZ) J T41 J F J C J J J ?_))));have F:=F.fd [0,0,0] J;have O: rdS S d left x=(left - 1,none):=fW hLV c5 (by first | exact .inl j0 | exact .inr (.inl j0) | exact .inr (.inr j0));rw [O];exact⟨_,none,0,rfl,RowT.nil _,F⟩
  ·refine ad J C J J J (aq C J J fun a C=>?_);refine ad J C J J J (aE C J J fun a C=>?_);refine ad J C J J J (ae (v:=(iV (left - 1))) T3 J C J (F.blkL 3 J) J J fun a C=>?_);refine ad J C J J J (aQ (i:=(left - 1)) (j:=0) C J J J fun a C=>?_);refine lin J (ak C J J J fun a C=>?_);refine wpList_nil (aa (ai (t:=39) C J (fun d1 C=>?_) (fun d1 C=>?_)))
   ·refine ao C J (wp_seq (ab (lin J (aA (vs:= []) (cells:=lZ) T41 PL41 C (C.evp J) J J fun a C=>?_))));refine lin J (al (cs':=aZ) T41 F (i:=1) J C J J J J J J fun a w F C=>?_);refine Ls J C fun a C=>?_;refine wpList_nil (aa (wp_ret (af (retA1 (i:=1) (cs:=aZ) J T41 J F J C J J J ?_))));have F:=F.fd [0,0,0] J;have O: rdS S d left x=(left - 1,none):=fW hLV c5 (by first | exact .inl j0 | exact .inr (.inl j0) | exact .inr (.inr j0));rw [O];exact⟨_,none,0,rfl,RowT.nil _,F⟩
   ·refine ag C J (wp_skip (aa (wp_seq (wp_seq ?_))));have b4:(dS S x).2=0:=by omega
    have ba: 0<=left - 1:=by omega
    obtain⟨d',rfl⟩: ∃ d',d=d'+1:=⟨d - 1,by omega⟩;have cq:=(fx b4).2.2;refine ab (lin J (ac (f:=0) (o2:=0) T35 T3 J J J J C J J fun a C=>?_));refine lin J (ae (v:=(iV (((dS S x).1).tag))) T3 J C J (F.blkL 0 J) J J fun a C=>?_);refine wpList_nil (aa (wp_block (wp_seq (ab (lin J (aJ (i:=(((dS S x).1).tag)) (j:=1) C J J J fun a C=>?_))))));refine Ls J C fun a C=>?_;refine wpList_nil (aa (ai (t:=43) C J (fun ca C=>?_) (fun ca C=>?_)))
    ·refine ao C J (wp_seq (ab (lin J (ac (f:=1) (o2:=1) T35 T3 J J J J C J J fun a C=>?_))));refine lin J (ae (v:=(iV (((dS S x).1).n))) T3 J C J (F.blkL 0 J) J J fun a C=>?_);refine lin J (aA (vs:= [(0,(iV 2)),(1,(iV (((dS S x).1).n)))]) (cells:= [(iV 2),(iV (((dS S x).1).n)),(.string (⟨#[]⟩)),(.slice none 0 0)]) T41 PL41 C (C.evp J) J J fun a C=>?_);refine lin J (al (cs':= #[(iV 2),(iV (((dS S x).1).n)),(.string (⟨#[]⟩)),(.slice none 0 0)]) T41 F (i:=1) J C J J J J J J fun a w F C=>?_);refine Ls J C fun a C=>?_;refine wpList_nil (aa (wp_ret (av (af (retA1 (i:=1) (cs:= #[(iV 2),(iV (((dS S x).1).n)),(.string (⟨#[]⟩)),(.slice none 0 0)]) J T41 J F J C J J J ?_)))));have F:=F.fd [0,0,0] J;have O:=rv_int (d:=d') b4 ba ca;rw [O];exact⟨_,none,0,rfl,RowT.nil _,F⟩
    ·refine ag C J (wp_seq (ab (lin J (aJ (i:=(((dS S x).1).tag)) (j:=2) C J J J fun a C=>?_))));refine Ls J C fun a C=>?_;refine wpList_nil (aa (ai (t:=48) C J (fun cb C=>?_) (fun cb C=>?_)))
     ·refine ao C J (wp_seq (ab (lin J (ac (f:=2) (o2:=2) T35 T9 J J J J C J J fun a C=>?_))));refine lin J (ae (v:=(.string (((dS S x).1).s))) T9 J C J (F.blkL 0 J) J J fun a C=>?_);refine lin J (aA (vs:= [(0,(iV 3)),(2,(.string (((dS S x).1).s)))]) (cells:= [(iV 3),(iV 0),(.string (((dS S x).1).s)),(.slice none 0 0)]) T41 PL41 C (C.evp J) J J fun a C=>?_);refine lin J (al (cs':= #[(iV 3),(iV 0),(.string (((dS S x).1).s)),(.slice none 0 0)]) T41 F (i:=1) J C J J J J J J fun a w F C=>?_);refine Ls J C fun a C=>?_;refine wpList_nil (aa (wp_ret (av (af (retA1 (i:=1) (cs:= #[(iV 3),(iV 0),(.string (((dS S x).1).s)),(.slice none 0 0)]) J T41 J F J C J J J ?_)))));have F:=F.fd [0,0,0] J;have O:=rv_atom (d:=d') b4 ba cb;rw [O];exact⟨_,none,0,rfl,RowT.nil _,F⟩
     ·refine ag C J (wp_seq (ab (lin J (aJ (i:=(((dS S x).1).tag)) (j:=3) C J J J fun a C=>?_))));refine Ls J C fun a C=>?_;refine wpList_nil (aa (ai (t:=53) C J (fun cc C=>?_) (fun cc C=>?_)))
      ·refine ao C J (wp_seq (ab (lin J (ac (f:=2) (o2:=2) T35 T9 J J J J C J J fun a C=>?_))));refine lin J (ae (v:=(.string (((dS S x).1).s))) T9 J C J (F.blkL 0 J) J J fun a C=>?_);refine lin J (aA (vs:= [(0,(iV 4)),(2,(.string (((dS S x).1).s)))]) (cells:= [(iV 4),(iV 0),(.string (((dS S x).1).s)),(.slice none 0 0)]) T41 PL41 C (C.evp J) J J fun a C=>?_);refine lin J (al (cs':= #[(iV 4),(iV 0),(.string (((dS S x).1).s)),(.slice none 0 0)]) T41 F (i:=1) J C J J J J J J fun a w F C=>?_);refine Ls J C fun a C=>?_;refine wpList_nil (aa (wp_ret (av (af (retA1 (i:=1) (cs:= #[(iV 4),(iV 0),(.string (((dS S x).1).s)),(.slice none 0 0)]) J T41 J F J C J J J ?_)))));have F:=F.fd [0,0,0] J;have O:=rv_str (d:=d') b4 ba cc;rw [O];exact⟨_,none,0,rfl,RowT.nil _,F⟩
      ·refine ag C J (wp_seq (ab (lin J (aJ (i:=(((dS S x).1).tag)) (j:=4) C J J J fun a C=>?_))));refine Ls J C fun a C=>?_;refine wpList_nil (aa (ai (t:=58) C J (fun cd C=>?_) (fun cd C=>?_)))
       ·refine ao C J (wp_seq (ab (lin J (ac (f:=1) (o2:=1) T35 T3 J J J J C J J fun a C=>?_))));refine lin J (ae (v:=(iV (((dS S x).1).n))) T3 J C J (F.blkL 0 J) J J fun a C=>?_);refine lin J (aA (vs:= [(0,(iV 1)),(1,(iV (((dS S x).1).n)))]) (cells:= [(iV 1),(iV (((dS S x).1).n)),(.string (⟨#[]⟩)),(.slice none 0 0)]) T41 PL41 C (C.evp J) J J fun a C=>?_);refine lin J (al (cs':= #[(iV 1),(iV (((dS S x).1).n)),(.string (⟨#[]⟩)),(.slice none 0 0)]) T41 F (i:=1) J C J J J J J J fun a w F C=>?_);refine Ls J C fun a C=>?_;refine wpList_nil (aa (wp_ret (av (af (retA1 (i:=1) (cs:= #[(iV 1),(iV (((dS S x).1).n)),(.string (⟨#[]⟩)),(.slice none 0 0)]) J T41 J F J C J J J ?_)))));have F:=F.fd [0,0,0] J;have O:=rv_var (d:=d') b4 ba cd;rw [O];exact⟨_,none,0,rfl,RowT.nil _,F⟩
       ·refine ag C J (wp_skip (ar (aa (wp_seq ?_))));obtain⟨dq,ei⟩: refB (dS S x).1=true/\((dS S x).1.tag=4\/(dS S x).1.tag=5\/(dS S x).1.tag=6):=by
         rcases ef cq with a8 | a8
         ·omega
         ·exact a8
        obtain⟨br,dv,c9,dj,O,c0,bv,cf,ej⟩:=cP (S:=S) (w:=(dS S x).1) cq dq;obtain⟨ep,cp,db⟩:=map_at' bh O;have eg:=(List.getElem?_eq_some_iff.1 cp).1;obtain⟨G,bm,e1,cy,cr,dt,di,dg⟩:=Row.getG RbV.len j2 bg (j:=br) j0;have d5:(A: Option Addr)=some ⟨bm,0,none⟩:=by injection dt
        obtain⟨b5,ee⟩:=AllRv.at_ Z cr;have e6:=F;refine As.c_draw_head (ini:=(As.il [])) (sup:=(As.sl [])) (als:= [10]) (s0:=⟨c7,fun _=>none⟩) (L:= [(some b1,(.cells #[(iV (((dS S x).1).tag)),(iV (((dS S x).1).n)),(.string (((dS S x).1).s)),(.bool (((dS S x).1).one))] 35 (0,0))),(some X,(.cells aZ 41 (0,0))),(some ay,(.cells #[(iV x.tag),(iV x.n),(.string x.s),(.bool x.one)] 35 (0,0))),(some l_,(.cells #[(iV (left - 1))] 3 (0,0))),(some r,(.cells #[(iV ((S.length: Nat): Int)),(.slice A xs.length c)] 133 (0,0))),eb]) (N:=110) (E:= [(0,(pB r)),(2,(iV (601 - ((d'+1: Nat): Int)))),(3,(pB l_)),(8,(pB X)),(10,(pB b1))]) 11 [FcV (pB r),FcV (pB r),FcV (.pointer (some ⟨r,1,none⟩)),FcV (.slice A xs.length c),FcV (pB r),FcV (.pointer (some ⟨b1,1,none⟩)),FcV (iV (((dS S x).1).n)),FcV (iV ((br: Nat): Int)),FcV (.pointer (some ⟨bm,0+br * 6,none⟩)),FcV (.agg #[(iV ((G.b.1: Nat): Int)),(iV G.b.2.kind),(.string G.b.2.nm),(.slice G.A G.b.2.words.length G.c),(.bool G.b.2.bound),(.slice G.A2 G.b.2.hooks.length G.c2)]),fun s v=> ∃ b,s.ax 10=some [(some b,(.cells #[(iV 0),(iV 0),(.string (⟨#[]⟩)),(.slice none 0 0),(.bool false),(.slice none 0 0)] 140 (0,0)))]/\v=.pointer (some ⟨b,0,none⟩)] mixed J J J (As.M1 (As.M1 (As.M1 (As.M1 (As.M1 (As.M1 (As.M1 (As.M1 (As.M1 (As.M1 (As.Monos.cons (fun _ _ _ hl ⟨b,h,e⟩=>⟨b,hl.get h,e⟩) (As.Monos.nil)))))))))))) (fun _=>rfl) F (C.pk J) (As.QuietsI.c4 ?_ ?_ ?_ ?_ (As.QuietsI.c4 ?_ ?_ ?_ ?_ (As.QuietsI.c2 ?_ ?_ (As.QuietsI.cons ?_ (As.QuietsI.nil))))) (fun e4 a w dy a3 F C bu=>?_)
        ·refine As.Qx J fun a w Y M a2 a1 F C a0 a3=>?_;have T:=F;exact aq C J J fun a C=>As.ql C T
        ·refine As.Qx1 0 J fun a w Y M a2 a1 F C a0 a3=>?_;have T:=F;exact aE C J J fun a C=>As.ql C T
        ·refine As.Qx1 1 J fun a w Y M a2 a1 F C a0 a3=>?_;have T:=F;exact ac (f:=1) (o2:=1) T133 T131 J J J J C J J fun a C=>As.ql C T
        ·refine As.Qx1 2 J fun a w Y M a2 a1 F C a0 a3=>?_;have T:=F;have F:=Step.dropN _ _ F;exact ae (v:=(.slice A xs.length c)) T131 J C J (F.blkL 4 J) J J fun a C=>As.ql C T
        ·refine As.Qx J fun a w Y M a2 a1 F C a0 a3=>?_;have T:=F;exact aq C J J fun a C=>As.ql C T
        ·refine As.Qx J fun a w Y M a2 a1 F C a0 a3=>?_;have T:=F;exact ac (f:=1) (o2:=1) T35 T3 J J J J C J J fun a C=>As.ql C T
        ·refine As.Qx1 5 J fun a w Y M a2 a1 F C a0 a3=>?_;have T:=F;have F:=Step.dropN _ _ F;exact ae (v:=(iV (((dS S x).1).n))) T3 J C J (F.blkL 0 J) J J fun a C=>As.ql C T
        ·refine As.Qx1 4 J fun a w Y M a2 a1 F C a0 a3=>?_;obtain⟨_,C,rfl⟩:=a0.g C 6 J;have Z:=Z.mono a2;have T:=F;have e7:=Step.dropN _ _ F;have F:=Step.perm F (List.Perm.of_eq (List.append_assoc (As.aents (As.il []) (As.sl []) [10] M) [(some b1,(.cells #[(iV (((dS S x).1).tag)),(iV (((dS S x).1).n)),(.string (((dS S x).1).s)),(.bool (((dS S x).1).one))] 35 (0,0))),(some X,(.cells aZ 41 (0,0))),(some ay,(.cells #[(iV x.tag),(iV x.n),(.string x.s),(.bool x.one)] 35 (0,0))),(some l_,(.cells #[(iV (left - 1))] 3 (0,0)))] [(some r,(.cells #[(iV ((S.length: Nat): Int)),(.slice A xs.length c)] 133 (0,0))),eb]).symm);have ck:=dB (a_:=(((dS S x).1).n)) (F.tail ((As.aents (As.il []) (As.sl []) [10] M)++ [(some b1,(.cells #[(iV (((dS S x).1).tag)),(iV (((dS S x).1).n)),(.string (((dS S x).1).s)),(.bool (((dS S x).1).one))] 35 (0,0))),(some X,(.cells aZ 41 (0,0))),(some ay,(.cells #[(iV x.tag),(iV x.n),(.string x.s),(.bool x.one)] 35 (0,0))),(some l_,(.cells #[(iV (left - 1))] 3 (0,0)))])) ⟨_,_,_,rfl,bg,Z,bh⟩ hSl;rw [dj] at ck;refine id (Co func126 C J (ck) ?_);rintro e w ⟨rfl,df⟩;refine⟨_,rfl,fun a C=>?_⟩;have F:=F.frameR ((As.aents (As.il []) (As.sl []) [10] M)++ [(some b1,(.cells #[(iV (((dS S x).1).tag)),(iV (((dS S x).1).n)),(.string (((dS S x).1).s)),(.bool (((dS S x).1).one))] 35 (0,0))),(some X,(.cells aZ 41 (0,0))),(some ay,(.cells #[(iV x.tag),(iV x.n),(.string x.s),(.bool x.one)] 35 (0,0))),(some l_,(.cells #[(iV (left - 1))] 3 (0,0)))]) df;have F:=Step.perm F (List.Perm.of_eq (List.append_assoc (As.aents (As.il []) (As.sl []) [10] M) [(some b1,(.cells #[(iV (((dS S x).1).tag)),(iV (((dS S x).1).n)),(.string (((dS S x).1).s)),(.bool (((dS S x).1).one))] 35 (0,0))),(some X,(.cells aZ 41 (0,0))),(some ay,(.cells #[(iV x.tag),(iV x.n),(.string x.s),(.bool x.one)] 35 (0,0))),(some l_,(.cells #[(iV (left - 1))] 3 (0,0)))] [(some r,(.cells #[(iV ((S.length: Nat): Int)),(.slice A xs.length c)] 133 (0,0))),eb]));exact As.qdone (s:=⟨Y,M⟩) (Le.refl _) C F J
        ·refine As.Qx1 3 J fun a w Y M a2 a1 F C a0 a3=>?_;obtain⟨_,C,rfl⟩:=a0.g C 7 J;have T:=F;exact az (b:=bm) (o:=0) (j:=br) T131.und T140 d5 C J J j0 j0 J fun a C=>As.ql C T
        ·refine As.Qx1 8 J fun a w Y M a2 a1 F C a0 a3=>?_;have T:=F;have F:=Step.dropN _ _ F;exact am (vs:= [(iV ((G.b.1: Nat): Int)),(iV G.b.2.kind),(.string G.b.2.nm),(.slice G.A G.b.2.words.length G.c),(.bool G.b.2.bound),(.slice G.A2 G.b.2.hooks.length G.c2)]) T140 J C J (F.blkL 5 (b:=bm) (o:=.cells cy 140 (0,0)) (by rw [<- di];rfl)) J dg J fun a C=>As.ql C T
        ·refine As.Qx J fun a w Y M a2 a1 F C a0 a3=>?_;have F: Step w0 H ((some l_,.cells #[.int .i64 left] 3 (0,0)):: [(some r,.cells #[.int .i64 (S.length: Int),.slice A xs.length c] 133 (0,0)),eb]) w Y ((As.aents (As.il []) (As.sl []) [] M++As.aents (As.il []) (As.sl []) [] M++ [(some b1,(.cells #[(iV (((dS S x).1).tag)),(iV (((dS S x).1).n)),(.string (((dS S x).1).s)),(.bool (((dS S x).1).one))] 35 (0,0))),(some X,(.cells aZ 41 (0,0))),(some ay,(.cells #[(iV x.tag),(iV x.n),(.string x.s),(.bool x.one)] 35 (0,0))),(some l_,(.cells #[(iV (left - 1))] 3 (0,0))),(some r,(.cells #[(iV ((S.length: Nat): Int)),(.slice A xs.length c)] 133 (0,0))),eb])):=As.opn (s:=⟨Y,M⟩) [] [10] [] [] J (As.con0 a1 J) F;refine aB (cs:= #[(iV 0),(iV 0),(.string (⟨#[]⟩)),(.slice none 0 0),(.bool false),(.slice none 0 0)]) T140 F C J J fun a5 a w F C=>?_;exact As.qown (i:=10) (dst:=some 12) (s:=⟨Y,M⟩) (E:= [(some a5,(.cells #[(iV 0),(iV 0),(.string (⟨#[]⟩)),(.slice none 0 0),(.bool false),(.slice none 0 0)] 140 (0,0)))]) [] [10] [] J J a1 (Le.refl _) C.dfr (As.has_at C) F As.con1 ⟨a5,rfl,rfl⟩
        obtain⟨b3,M⟩:=dy;have cl: Le c7 b3:=a3.le;dsimp only at bu F;have Z:=Z.mono cl;have b5:=b5.mono cl;obtain⟨_,C,rfl⟩:=As.Dd C bu 9 J;obtain⟨_,C,a5,c3,rfl⟩:=As.Dd C bu 10 J;have c3: M 10=some [(some a5,(.cells #[(iV 0),(iV 0),(.string (⟨#[]⟩)),(.slice none 0 0),(.bool false),(.slice none 0 0)] 140 (0,0)))]:=c3;have F: Step w0 H ((some l_,.cells #[.int .i64 left] 3 (0,0)):: [(some r,.cells #[.int .i64 (S.length: Int),.slice A xs.length c] 133 (0,0)),eb]) w b3 [(some a5,(.cells #[(iV 0),(iV 0),(.string (⟨#[]⟩)),(.slice none 0 0),(.bool false),(.slice none 0 0)] 140 (0,0))),(some b1,(.cells #[(iV (((dS S x).1).tag)),(iV (((dS S x).1).n)),(.string (((dS S x).1).s)),(.bool (((dS S x).1).one))] 35 (0,0))),(some X,(.cells aZ 41 (0,0))),(some ay,(.cells #[(iV x.tag),(iV x.n),(.string x.s),(.bool x.one)] 35 (0,0))),(some l_,(.cells #[(iV (left - 1))] 3 (0,0))),(some r,(.cells #[(iV ((S.length: Nat): Int)),(.slice A xs.length c)] 133 (0,0))),eb]:=by
         have a8:=F;unfold As.aents at a8;simp only [List.flatMap_cons,List.flatMap_nil,As.conE,show (As.sl []) 10=none from rfl,c3,Option.isSome_some,Option.getD_some,cond_true,cond_false,List.cons_append,List.nil_append,List.append_nil] at a8;exact a8
        refine any1 (i:=11) j3 J J (al (cs':= #[(iV ((G.b.1: Nat): Int)),(iV G.b.2.kind),(.string G.b.2.nm),(.slice G.A G.b.2.words.length G.c),(.bool G.b.2.bound),(.slice G.A2 G.b.2.hooks.length G.c2)]) T140 F (i:=0) J C J J J J J J fun a w F C=>?_);refine any0 j3 ?_;refine aa (wp_seq ?_);have dc: G.b=(dv,c9):=by rw [Option.some.inj (cr.symm.trans cp)];exact db
        obtain rfl: G.b.2=c9:=by rw [dc]
        refine ab (lin J (ac (f:=2) (o2:=2) T140 T9 J J J J C J J fun a C=>?_));refine lin J (ae (v:=(.string G.b.2.nm)) T9 J C J (F.blkL 0 J) J J fun a C=>?_);refine lin J (aA (vs:= [(0,(iV 5)),(2,(.string G.b.2.nm))]) (cells:= [(iV 5),(iV 0),(.string G.b.2.nm),(.slice none 0 0)]) T41 PL41 C (C.evp J) J J fun a C=>?_);refine lin J (aB (cs:=aZ) T41 F C J J fun b8 a w F C=>?_);refine lin J (al (cs':= #[(iV 5),(iV 0),(.string G.b.2.nm),(.slice none 0 0)]) T41 F (i:=0) J C J J J J J J fun a w F C=>?_);refine wpList_nil (aa (fp (fun a w=> ∃(bk: PHeap),∃(a9: Int),Le b3 bk/\Has [] a 110 [(0,(pB r)),(2,(iV (601 - ((d'+1: Nat): Int)))),(3,(pB l_)),(8,(pB X)),(12,(pB a5)),(13,(pB b8))]/\Step w0 H ((some l_,.cells #[.int .i64 left] 3 (0,0)):: [(some r,.cells #[.int .i64 (S.length: Int),.slice A xs.length c] 133 (0,0)),eb]) w bk [(some b8,(.cells #[(iV a9),(iV 0),(.string G.b.2.nm),(.slice none 0 0)] 41 (0,0))),(some a5,(.cells #[(iV ((G.b.1: Nat): Int)),(iV G.b.2.kind),(.string G.b.2.nm),(.slice G.A G.b.2.words.length G.c),(.bool G.b.2.bound),(.slice G.A2 G.b.2.hooks.length G.c2)] 140 (0,0))),(some X,(.cells aZ 41 (0,0))),(some l_,(.cells #[(iV (left - 1))] 3 (0,0))),(some r,(.cells #[(iV ((S.length: Nat): Int)),(.slice A xs.length c)] 133 (0,0))),eb]/\(a9=(dS S x).1.tag)/\(b3=bk)) ?_ ?_))
        ·refine wp_seq (ab (lin J (ac (f:=0) (o2:=0) T35 T3 J J J J C J J fun a C=>?_)));refine lin J (ae (v:=(iV (((dS S x).1).tag))) T3 J C J (F.blkL 2 J) J J fun a C=>?_);refine lin J (aJ (i:=(((dS S x).1).tag)) (j:=6) C J J J fun a C=>?_);refine wpList_nil (aa (ai (t:=78) C J (fun d2 C=>?_) (fun d2 C=>?_)))
         ·refine ao C J (ab (lin J (ac (f:=0) (o2:=0) T41 T3 J J J J C J J fun a C=>?_)));refine lin J (al (cs':= #[(iV 6),(iV 0),(.string G.b.2.nm),(.slice none 0 0)]) T3 F (i:=0) J C J J J J J J fun a w F C=>?_);refine wpList_nil (aa (?_));have F:=F.fd [3,0,4,0] J;exact⟨b3,6,(Le.refl _),C.pk J,F,j0,rfl⟩
         ·refine ag C J (wp_skip (aa (?_)));have F:=F.fd [3,0,4,0] J;exact⟨b3,5,(Le.refl _),C.pk J,F,j0,rfl⟩
        ·intro a w dl;obtain⟨bk,a9,cm,C,F,e9,d7⟩:=dl;have Z:=Z.mono cm;have b5:=b5.mono cm;subst d7;refine wp_seq (wp_seq (ab ?_));have F:=F.cons_none (en:=noEnt) J;refine Ls J C fun a C=>?_;refine wpList_nil (aa (wp_block ?_));have ek:=hwl _ _ bv;refine aL (fun dw a w=> ∃(bl: PHeap),∃(k: Nat),∃(lk: Int),∃(ts: List Tm),∃(I: List TV),∃(bc: Ent),∃(ap: Option Addr),∃(b2: Nat),Le b3 bl/\dw=G.b.2.words.length - k/\Has [] a 110 [(0,(pB r)),(2,(iV (601 - ((d'+1: Nat): Int)))),(3,(pB l_)),(8,(pB X)),(12,(pB a5)),(13,(pB b8)),(14,(iV ((k: Nat): Int)))]/\Step w0 H ((some l_,.cells #[.int .i64 left] 3 (0,0)):: [(some r,.cells #[.int .i64 (S.length: Int),.slice A xs.length c] 133 (0,0)),eb]) w bl [bc,(some b8,(.cells #[(iV a9),(iV 0),(.string G.b.2.nm),(.slice ap I.length b2)] 41 (0,0))),(some a5,(.cells #[(iV ((G.b.1: Nat): Int)),(iV G.b.2.kind),(.string G.b.2.nm),(.slice G.A G.b.2.words.length G.c),(.bool G.b.2.bound),(.slice G.A2 G.b.2.hooks.length G.c2)] 140 (0,0))),(some X,(.cells aZ 41 (0,0))),(some l_,(.cells #[(iV lk)] 3 (0,0))),(some r,(.cells #[(iV ((S.length: Nat): Int)),(.slice A xs.length c)] 133 (0,0))),eb]/\(Row (.slice ap I.length b2) bc 41 4 I.length (flat I))/\(AllR bl I)/\(I.map TV.t=ts)/\(I.length=k)/\(k<=G.b.2.words.length)/\(RdTo (rdS S d') (left - 1) G.b.2.words k lk ts)/\(0<=lk/\lk<=4000)) _ ⟨b3,0,(left - 1), [], [],noEnt,none,0,Le.refl _,rfl,C.pk J,F,(Row.nil 41 4),(AllR.nil _),rfl,rfl,j0,RdTo.zero,j0⟩ ?_;intro em a w dk;obtain⟨bl,k,lk,ts,I,bc,ap,b2,bw,ed,C,F,ce,b9,bz,el,hk,c1,ea⟩:=dk;have Z:=Z.mono bw;have b5:=b5.mono bw;refine wp_seq (wp_seq (ab (Lm J C fun a C=>?_)));refine lin J (ac (f:=3) (o2:=3) T140 T37 J J J J C J J fun a C=>?_);refine lin J (ae (v:=(.slice G.A G.b.2.words.length G.c)) T37 J C J (F.blkL 2 J) J J fun a C=>?_);refine lin J (aI T37.und C J J fun a C=>?_);refine lin J (aQ (i:=((k: Nat): Int)) (j:=((G.b.2.words.length: Nat): Int)) C J J J fun a C=>?_);refine wpList_nil (aa (ai (t:=84) C J (fun d3 C=>?_) (fun d3 C=>?_)))
         ·refine ao C J (wp_skip (aa (wp_seq (wp_block (wp_seq (ab (Lm J C fun a C=>?_)))))));refine lin J (ac (f:=3) (o2:=3) T140 T37 J J J J C J J fun a C=>?_);refine lin J (ae (v:=(.slice G.A G.b.2.words.length G.c)) T37 J C J (F.blkL 2 J) J J fun a C=>?_);refine Lm J C fun a C=>?_;obtain⟨b7,cw,dx,e3,e2,e5,bq,d6,da,dh⟩:=b5.get (j:=k) j4;refine lin J (az (b:=cw) (o:=dx) (j:=k) T37.und T35 d6 C J J j0 j0 J fun a C=>?_);refine lin J (am (vs:= [(iV b7.tag),(iV b7.n),(.string b7.s),(.bool b7.one)]) T35 J C J (F.blkH da) J dh J fun a C=>?_);refine Lm J C fun a C=>?_;refine lin J (aF (i:=(601 - ((d'+1: Nat): Int))) (j:=1) C J J J j0 fun a C=>?_);rw [show ((601: Int) - ((d'+1: Nat): Int))+1=601 - ((d': Nat): Int) from by omega] at C;refine Lm J C fun a C=>?_;have dm:=ih d' j0 lk b7 _ _ (F.tail [bc,(some b8,(.cells #[(iV a9),(iV 0),(.string G.b.2.nm),(.slice ap I.length b2)] 41 (0,0))),(some a5,(.cells #[(iV ((G.b.1: Nat): Int)),(iV G.b.2.kind),(.string G.b.2.nm),(.slice G.A G.b.2.words.length G.c),(.bool G.b.2.bound),(.slice G.A2 G.b.2.hooks.length G.c2)] 140 (0,0))),(some X,(.cells aZ 41 (0,0)))]) ⟨_,_,_,rfl,bg,Z,bh⟩ j0 j0 (hLV _ _ bv _ (List.mem_of_getElem? bq)) (hwz _ _ bv _ (List.mem_of_getElem? bq));refine lin J (Co func131 C J (dm) ?_);rintro e w ⟨dz,a4,a7,cj,bi,bp⟩;obtain⟨V,b6⟩: ∃ r_,rdS S d' lk b7=r_:=⟨_,rfl⟩;rw [b6] at cj bi bp;subst cj;refine⟨_,rfl,fun a C=>?_⟩;have F:=F.frameR [bc,(some b8,(.cells #[(iV a9),(iV 0),(.string G.b.2.nm),(.slice ap I.length b2)] 41 (0,0))),(some a5,(.cells #[(iV ((G.b.1: Nat): Int)),(iV G.b.2.kind),(.string G.b.2.nm),(.slice G.A G.b.2.words.length G.c),(.bool G.b.2.bound),(.slice G.A2 G.b.2.hooks.length G.c2)] 140 (0,0))),(some X,(.cells aZ 41 (0,0)))] bp;have b9:=b9.mono bp.le;refine Lm J C fun a C=>?_;refine lin J (ah (v:=(tv ((tmO V.2)) a4 a7)) C J J J fun a C=>?_);refine lin J (ah (v:=(.bool V.2.isSome)) C J J J fun a C=>?_);refine lin J (aB (cs:=aZ) T41 F C J J fun e0 a w F C=>?_);refine lin J (al (cs':=(tA ((tmO V.2)) a4 a7)) T41 F (i:=0) J C J J J J J J fun a w F C=>?_);refine Ls J C fun a C=>?_;refine wpList_nil (aa (wp_seq (wp_seq (ab (Lm J C fun a C=>?_)))));refine lin J (aK C J J fun a C=>?_);refine wpList_nil (aa (au (t:=101) C J (fun bt C=>?_) (fun bt C=>?_)))
          ·refine ao C J (wp_seq (ab (lin J (aA (vs:= []) (cells:=lZ) T41 PL41 C (C.evp J) J J fun a C=>?_))));refine lin J (al (cs':=aZ) T41 F (i:=4) J C J J J J J J fun a w F C=>?_);refine Ls J C fun a C=>?_;refine wpList_nil (aa (wp_ret (af (av (af (af (av (af (retA1 (i:=4) (cs:=aZ) J T41 J F J C J J J ?_)))))))));have O:=rv_blk (d:=d') b4 ba cf j0;have F:=F.fd [0,0,0,0,0] J;rw [c1.fail bq (by rw [b6];exact Option.not_isSome_iff_eq_none.1 (by simpa using bt)),b6] at O;rw [O];exact⟨_,none,0,rfl,RowT.nil _,F⟩
          ·obtain⟨eq,ct⟩:=Option.isSome_iff_exists.1 (show V.2.isSome=true by simpa using bt);have dp:=cZ S d' lk b7 _ (by rw [b6];exact ct);rw [b6] at dp;refine ag C J (wp_skip (aa (ab (lin J (ac (f:=3) (o2:=3) T41 T39 J J J J C J J fun a C=>?_)))));refine lin J (ae (v:=(.slice ap I.length b2)) T39 J C J (F.blkL 2 J) J J fun a C=>?_);refine lin J (am (vs:=(tL ((tmO V.2)) a4 a7)) T41 J C J (F.blkL 0 J) J (aj J) J fun a C=>?_);refine lin J (a6 (vs:= [(0,(tv ((tmO V.2)) a4 a7))]) (cells:=(tL ((tmO V.2)) a4 a7)) T39.und T41 F C (C.evp J) J J J J fun c8 a w F C=>?_);obtain⟨c6,F,bx,cg⟩:=F.give;have b9:=b9.mono bx;have bi:=bi.mono bx;have eh: RowT c6 (some ⟨c8,0,none⟩) 1 [(tmO V.2)]:=RowT.of_lit ([⟨(tmO V.2),a4,a7⟩]: List TV) cg (AllR.cons bi (AllR.nil _)) j1 J;have F:=F.front 1 J;refine lin J (aS (news:=(flat ([⟨(tmO V.2),a4,a7⟩]: List TV))) (xs:=(flat I)) T39.und T41 J J F ce C J J J (fun _=>⟨c8,0,_,_,_,rfl,F.blkH cg,aj J⟩) (ci J) j0 J J fun eo cz a w bf F C=>?_);rw [<- dr] at bf;obtain⟨bj,bo,rfl⟩:=bf.slice;have c0:(I.length+1)=(I++([⟨(tmO V.2),a4,a7⟩]: List TV)).length:=by have a8:=bf.1;rw [bS] at a8;omega
           rw [show Value.slice bj (I.length+1) bo=Value.slice bj (I++([⟨(tmO V.2),a4,a7⟩]: List TV)).length bo from by rw [c0]] at C;rw [c0] at bf;refine lin J (ac (f:=3) (o2:=3) T41 T39 J J J J C J J fun a C=>?_);refine lin J (al (cs':= #[(iV a9),(iV 0),(.string G.b.2.nm),(.slice bj ((I++([⟨(tmO V.2),a4,a7⟩]: List TV)).length) bo)]) T39 F (i:=2) J C J J J J J J fun a w F C=>?_);refine wpList_nil (ar (aa (ab (Lm J C fun a C=>?_))));refine lin J (aF (i:=((k: Nat): Int)) (j:=1) C J J J j0 fun a C=>?_);refine Ls J C fun a C=>?_;refine wpList_nil (aa (?_));have F:=F.fd [2,0] J;exact⟨G.b.2.words.length - (k+1),by omega,c6,(k+1),V.1,(ts++ [tmO V.2]),(I++([⟨(tmO V.2),a4,a7⟩]: List TV)),cz,bj,bo,(bw.trans (bp.le.trans (bx))),rfl,C.pk J,F,(by simpa using bf),(AllR.append b9 (AllR.cons bi (AllR.nil _))),(by rw [List.map_append,bz];rfl),(by simp;omega),j0,(by have a8:=c1.step bq (t:=tmO V.2) (by rw [b6,ct];rfl);rw [b6] at a8;exact a8),j0⟩
         ·refine ag C J (wp_exit (aw (aw (aH (aa (wp_seq (ab (lin J (am (vs:= [(iV a9),(iV 0),(.string G.b.2.nm),(.slice ap I.length b2)]) T41 J C J (F.blkL 1 J) J (aj J) J fun a C=>?_)))))))));refine lin J (al (cs':= #[(iV a9),(iV 0),(.string G.b.2.nm),(.slice ap I.length b2)]) T41 F (i:=3) J C J J J J J J fun a w F C=>?_);refine Ls J C fun a C=>?_;refine wpList_nil (aa (wp_ret (retA1 (i:=3) (cs:= #[(iV a9),(iV 0),(.string G.b.2.nm),(.slice ap I.length b2)]) J T41 J F J C J J J ?_)));have O:=rv_blk (d:=d') b4 ba cf j0;have F:=F.fd [2,0,2,0,2,0] J;rw [c1.done j0,show (dS S x).1.tag=a9 by omega] at O;rw [O];obtain⟨cv,cu,c',ds,F,a2,co⟩:=ce.release F b9 j0;rw [bz] at co;have cn: ts.length=I.length:=by rw [<- bz,List.length_map]
          exact⟨cv,cu,c',by simp only [tmO,Option.map_some,Option.isSome_some,tv,Tm.kind,Tm.n,Tm.s,Tm.l,cn,<- ds],co,F⟩
end Go.Vk.Tryz
namespace Go.Vk.Tryz
open Go.RowKit
set_option maxHeartbeats 2000000 in
theorem c_rRead {w0: World} {H: PHeap} {r: Nat} {S: PS} {es eb: Ent} (hI: Inv w0 H [es,eb]) (hK: RK r S H es eb) (hSl: S.length<=65536) (hwl: ∀(j: Nat) (b: PB),S[j]? =some (some b)->j+b.size<=S.length/\b.words.length<=64) (hwz: ∀(j: Nat) (b: PB),S[j]? =some (some b)->∀ w ∈ b.words,w.s.size<=2000000) (hLV: LV S) (hFO: FO S) {x: Wd} (hz: x.s.size<=2000000): Calls prog 89 #[(pB r),(.agg #[(iV x.tag),(iV x.n),(.string x.s),(.bool x.one)])] w0 (fun e w'=> ∃ H' A c,e=.returned (.tuple #[tv (readS S x).1 A c,.int .i64 (readS S x).2])/\RowT H' A c (readS S x).1.l/\Step w0 H [es,eb] w' H' [es,eb]):=by
 obtain⟨xs,A,c,rfl,a1,a7,a4⟩:=hK;have F:=Step.refl hI;have b2:=bI a4;have b3:=bn S 0;have b1:=Row.cap a1;refine enter [(pB r),(.agg #[(iV x.tag),(iV x.n),(.string x.s),(.bool x.one)])] func89 J ntmps89 J fun a C=>?_;refine wp_seq (ab (lin J (aG (cs:= #[(iV x.tag),(iV x.n),(.string x.s),(.bool x.one)]) F C J J J fun T a w F C=>?_)));refine lin J (aB (cs:=aZ) T41 F C J J fun V a w F C=>?_);refine Ls J C fun a C=>?_;refine wpList_nil (aa (wp_seq (wp_seq (ab (Lm J C fun a C=>?_)))));refine lin J (am (vs:= [(iV x.tag),(iV x.n),(.string x.s),(.bool x.one)]) T35 J C J (F.blkL 1 J) J (aj J) J fun a C=>?_);have ar:=dW (x:=x) (F.tail [(some V,(.cells aZ 41 (0,0))),(some T,(.cells #[(iV x.tag),(iV x.n),(.string x.s),(.bool x.one)] 35 (0,0)))]) ⟨_,_,_,rfl,a1,a7,a4⟩ hSl hz;refine lin J (Co func125 C J (ar) ?_);rintro e w ⟨rfl,a2⟩;refine⟨_,rfl,fun a C=>?_⟩;have F:=F.frameR [(some V,(.cells aZ 41 (0,0))),(some T,(.cells #[(iV x.tag),(iV x.n),(.string x.s),(.bool x.one)] 35 (0,0)))] a2;refine lin J (aK C J J fun a C=>?_);refine wpList_nil (aa (au (t:=12) C J (fun a0 C=>?_) (fun a0 C=>?_)))
 ·refine ao C J (wp_seq (ab (lin J (aA (vs:= []) (cells:=lZ) T41 PL41 C (C.evp J) J J fun a C=>?_))));refine lin J (al (cs':=aZ) T41 F (i:=0) J C J J J J J J fun a w F C=>?_);refine Ls J C fun a C=>?_;refine wpList_nil (aa (wp_ret (af (retA1 (i:=0) (cs:=aZ) J T41 J F J C J J J ?_))));have F:=F.fd [0,0] J;have O: readS S x=(Tm.zero,211):=by unfold readS;rw [if_pos (by simpa using a0)]
  rw [O];exact⟨_,none,0,rfl,RowT.nil _,F⟩
 ·refine ag C J (wp_skip (aa (wp_seq ?_)));have a6: wordS S x=true:=by simpa using a0
  have ac:=LW.of a6;refine ab (lin J (aB (cs:= #[(iV 0)]) T3 F C J J fun az a w F C=>?_));refine lin J (al (cs':= #[(iV 4000)]) T3 F (i:=0) J C J J J J J J fun a w F C=>?_);refine wpList_nil (aa (wp_seq (ab (Lm J C fun a C=>?_))));refine lin J (am (vs:= [(iV x.tag),(iV x.n),(.string x.s),(.bool x.one)]) T35 J C J (F.blkL 2 J) J (aj J) J fun a C=>?_);have F:=F.fd [5,5,3,5,5] J;have aq:=c_rread (left:=4000) (x:=x) hSl hLV hwl hwz 600 _ _ (F.tail [(some V,(.cells aZ 41 (0,0))),(some T,(.cells #[(iV x.tag),(iV x.n),(.string x.s),(.bool x.one)] 35 (0,0)))]) ⟨_,_,_,rfl,a1,a7,a4⟩ j0 j0 ac hz;refine lin J (Co func131 C J (aq) ?_);rintro e w ⟨aw,I,M,a9,a5,a8⟩;obtain⟨G,Y⟩: ∃ r_,rdS S 600 4000 x=r_:=⟨_,rfl⟩;rw [Y] at a9 a5 a8;subst a9;refine⟨_,rfl,fun a C=>?_⟩;have F:=F.frameR [(some V,(.cells aZ 41 (0,0))),(some T,(.cells #[(iV x.tag),(iV x.n),(.string x.s),(.bool x.one)] 35 (0,0)))] a8;refine Lm J C fun a C=>?_;refine lin J (ah (v:=(tv ((tmO G.2)) I M)) C J J J fun a C=>?_);refine lin J (ah (v:=(.bool G.2.isSome)) C J J J fun a C=>?_);refine lin J (aB (cs:=aZ) T41 F C J J fun ay a w F C=>?_);refine lin J (al (cs':=(tA ((tmO G.2)) I M)) T41 F (i:=0) J C J J J J J J fun a w F C=>?_);refine Ls J C fun a C=>?_;refine wpList_nil (aa (wp_seq (wp_seq (ab (Lm J C fun a C=>?_)))));refine lin J (aK C J J fun a C=>?_);refine Lm J C fun a C=>?_;refine au (t:=22) C J (fun X C=>?_) (fun X C=>?_)
  ·refine Lf J C J J fun a C=>?_;refine Lf J C J J fun a C=>?_;refine Lf J C J J fun a C=>?_;refine lin J (an C J J J fun a C=>?_);refine wpList_nil (aa (ao C J (wp_seq (ab (lin J (aA (vs:= []) (cells:=lZ) T41 PL41 C (C.evp J) J J fun a C=>?_))))));refine lin J (al (cs':=aZ) T41 F (i:=1) J C J J J J J J fun a w F C=>?_);refine Ls J C fun a C=>?_;refine wpList_nil (aa (wp_ret (af (retA1 (i:=1) (cs:=aZ) J T41 J F J C J J J ?_))));have F:=F.fd [0,0,0,0] J;have O: readS S x=(Tm.zero,2):=by
    have av: G.2=none:=Option.not_isSome_iff_eq_none.1 (by simpa using X);unfold readS;rw [if_neg (by rw [a6];simp),Y,av]
   rw [O];exact⟨_,none,0,rfl,RowT.nil _,F⟩
  ·refine ad J C J J J (am (vs:=(tL ((tmO G.2)) I M)) T41 J C J (F.blkL 0 J) J (aj J) J fun a C=>?_);obtain⟨ap,ai,b4⟩:=read_termV hLV hFO hwl hSl ac Y (by first |(simpa using X) | assumption);have a3:=dA F.inv.nil a5 j0 ai;rw [ap] at a3;simp only [if_true] at a3;refine ad J C J J J (Co func122 C J (a3) ?_);rintro e w ⟨rfl,a2⟩;refine⟨_,rfl,fun a C=>?_⟩;have F:=F.call a2;refine ad J C J J J (bA (i:=0) (j:=0) C J J J fun a C=>?_);refine lin J (ak C J J J fun a C=>?_);refine wpList_nil (aa (aP (t:=26) C J (fun Z C=>?_) (fun Z C=>?_)))
   ·refine ao C J (wp_seq (ab (lin J (aA (vs:= []) (cells:=lZ) T41 PL41 C (C.evp J) J J fun a C=>?_))));refine lin J (al (cs':=aZ) T41 F (i:=1) J C J J J J J J fun a w F C=>?_);refine Ls J C fun a C=>?_;refine wpList_nil (aa (wp_ret (af (retA1 (i:=1) (cs:=aZ) J T41 J F J C J J J ?_))));have F:=F.fd [0,0,0,0] J
    first | exact absurd rfl Z |(exfalso;simp at Z) |(exfalso;omega)
   ·refine ag C J (wp_skip (aa (wp_seq (ab (lin J (am (vs:=(tL ((tmO G.2)) I M)) T41 J C J (F.blkL 0 J) J (aj J) J fun a C=>?_))))));refine lin J (al (cs':=(tA ((tmO G.2)) I M)) T41 F (i:=1) J C J J J J J J fun a w F C=>?_);refine Ls J C fun a C=>?_;refine wpList_nil (aa (wp_ret (retA1 (i:=1) (cs:=(tA ((tmO G.2)) I M)) J T41 J F J C J J J ?_)));have F:=F.fd [0,0,0,0] J;obtain⟨ax,ae⟩:=Option.isSome_iff_exists.1 (show G.2.isSome=true by simpa using X);have O: readS S x=(tmO G.2,0):=by
     unfold readS;rw [if_neg (by rw [a6];simp),Y,ae];rfl
    rw [O];exact⟨_,_,_,rfl,a5,F⟩
end Go.Vk.Tryz
namespace Go.Vk
mutual
def tmR (v: Int): Tm->Nat
 | .mk k n _ l=>if k=1 then (if n=v then 1 else 0) else tmRL v l
def tmRL (v: Int): List Tm->Nat
 | []=>0
 | t::ts=>tmR v t+tmRL v ts
end
mutual
def grR: Tm->Int
 | .mk k n _ l=>if k=1 then n else grRL (-1) l
def grRL: Int->List Tm->Int
 | m, []=>m
 | m,t::ts=>grRL (max m (grR t)) ts
end
theorem gr (v: Int) (t: Tm): tmR v t=if t.kind=1 then (if t.n=v then 1 else 0) else tmRL v t.l:=by cases t;rw [tmR];rfl
theorem grR_eq (t: Tm): grR t=if t.kind=1 then t.n else grRL (-1) t.l:=by cases t;rw [grR];rfl
theorem tmRL_snoc (v: Int): ∀(l: List Tm) (t: Tm),tmRL v (l++ [t])=tmRL v l+tmR v t
 | [],t=>by rw [List.nil_append,tmRL,tmRL,tmRL];omega
 | u::l,t=>by rw [List.cons_append,tmRL,tmRL,tmRL_snoc v l t];omega
theorem grRL_snoc: ∀(l: List Tm) (m: Int) (t: Tm),grRL m (l++ [t])=max (grRL m l) (grR t)
 | [],m,t=>by rw [List.nil_append,grRL,grRL,grRL]
 | u::l,m,t=>by rw [List.cons_append,grRL,grRL,grRL_snoc l _ t]
mutual
theorem gt (v: Int): ∀ t: Tm,tmR v t<=t.sz
 | .mk k n s l=>by
  rw [tmR,Tm.sz];have h:=fY v l
  split
  ·split <;> omega
  ·omega
theorem fY (v: Int): ∀ ts: List Tm,tmRL v ts<=Tm.szL ts
 | []=>Nat.le_refl _
 | t::ts=>by
  rw [tmRL,Tm.szL];have h1:=gt v t;have h2:=fY v ts;omega
end
mutual
theorem tmR_times (v: Int): ∀ t: Tm,(∀ x ∈ nds t,x.kind=1->x.l= [])->tmR v t=timesN t v
 | .mk k n s l,h=>by
  have hl:=tmRL_times v l fun x hx=>h x (by rw [nds];exact List.mem_cons_of_mem _ hx);unfold timesN;rw [tmR,nds,List.countP_cons]
  show _=_+if (decide (k=1)&&decide (n=v))=true then 1 else 0
  by_cases hk: k=1
  ·have he: l= []:=h (.mk k n s l) (by rw [nds];exact List.mem_cons_self) hk;rw [if_pos hk,he,ndsL,List.countP_nil]
   by_cases hn: n=v
   ·simp [hk,hn]
   ·simp [hk,hn]
  ·rw [if_neg hk,hl];simp [hk]
theorem tmRL_times (v: Int): ∀ ts: List Tm,(∀ x ∈ ndsL ts,x.kind=1->x.l= [])->tmRL v ts=(ndsL ts).countP fun x=>decide (x.kind=1)&&decide (x.n=v)
 | [],h=>by rw [tmRL,ndsL];rfl
 | t::ts,h=>by
  rw [tmRL,ndsL,List.countP_append,tmR_times v t fun x hx=>h x (by rw [ndsL];exact List.mem_append_left _ hx),tmRL_times v ts fun x hx=>h x (by rw [ndsL];exact List.mem_append_right _ hx)];rfl
end
mutual
theorem gk {n: Int} (hn: -1 < n): ∀ t: Tm,(∀ x ∈ nds t,x.kind=1->x.l= [])->(grR t < n↔∀ x ∈ nds t,x.kind=1->x.n < n)
 | .mk k m s l,h=>by
  have hl:=grRL_lt hn l (-1) fun x hx=>h x (by rw [nds];exact List.mem_cons_of_mem _ hx);rw [grR,nds]
  by_cases hk: k=1
  ·have he: l= []:=h (.mk k m s l) (by rw [nds];exact List.mem_cons_self) hk;rw [if_pos hk,he,ndsL]
   constructor
   ·intro h1 x hx _;obtain rfl:=List.mem_singleton.1 hx;exact h1
   ·intro h1;exact h1 _ List.mem_cons_self hk
  ·rw [if_neg hk,hl]
   constructor
   ·rintro⟨_,h1⟩ x hx hxk
    rcases List.mem_cons.1 hx with rfl | hx
    ·exact absurd hxk hk
    ·exact h1 x hx hxk
   ·intro h1;exact⟨hn,fun x hx=>h1 x (List.mem_cons_of_mem _ hx)⟩
theorem grRL_lt {n: Int} (hn: -1 < n): ∀(ts: List Tm) (m: Int),(∀ x ∈ ndsL ts,x.kind=1->x.l= [])->(grRL m ts < n↔m < n/\∀ x ∈ ndsL ts,x.kind=1->x.n < n)
 | [],m,h=>by rw [grRL,ndsL];simp
 | t::ts,m,h=>by
  have h1:=gk hn t fun x hx=>h x (by rw [ndsL];exact List.mem_append_left _ hx);rw [grRL,grRL_lt hn ts _ fun x hx=>h x (by rw [ndsL];exact List.mem_append_right _ hx),ndsL]
  constructor
  ·rintro⟨h2,h3⟩;refine⟨by omega,fun x hx=>?_⟩
   rcases List.mem_append.1 hx with hx | hx
   ·exact h1.1 (by omega) x hx
   ·exact h3 x hx
  ·rintro⟨h2,h3⟩;have h4:=h1.2 fun x hx=>h3 x (List.mem_append_left _ hx);exact⟨by omega,fun x hx=>h3 x (List.mem_append_right _ hx)⟩
end
def unS (mk: List Int) (S: PS): PS:=mk.foldl (fun S a=>S.set a.toNat none) S
theorem fZ: ∀(mk: List Int) (S: PS) (j: Nat),(unS mk S)[j]? =if mk.any (fun a=>decide (a.toNat=j)) then (S[j]?).map (fun _=>none) else S[j]?
 | [],S,j=>by rfl
 | a::mk,S,j=>by
  show (unS mk (S.set a.toNat none))[j]? =_
  rw [fZ mk,List.any_cons]
  by_cases h: a.toNat=j
  ·rw [List.getElem?_set,if_pos h,decide_eq_true h,Bool.true_or,if_pos J]
   by_cases hl: a.toNat < S.length
   ·rw [if_pos hl,List.getElem?_eq_getElem j0]
    split <;> rfl
   ·rw [if_neg hl,List.getElem?_eq_none j0]
    split <;> rfl
  ·rw [List.getElem?_set_ne h,decide_eq_false h,Bool.false_or]
theorem unS_add {mk: List Int} {S: PS} {p: Nat} {b: PB} (hp: S[p]? =some none): unS (mk++ [(p: Int)]) (S.set p (some b))=unS mk S:=by
 apply List.ext_getElem?
 intro j;rw [fZ,fZ,List.any_append];have hl:=(List.getElem?_eq_some_iff.1 hp).1
 by_cases h: p=j
 ·subst h;rw [List.any_cons,Int.toNat_natCast,decide_eq_true J,Bool.true_or,Bool.or_true,if_pos J,List.getElem?_set,if_pos J,if_pos hl,hp]
  split <;> rfl
 ·rw [List.any_cons,Int.toNat_natCast,decide_eq_false h,List.getElem?_set_ne h];simp
theorem clear_S (h: HS) (a: Nat):(h.clear a).S=h.S.set a none:=by
 unfold HS.clear
 split
 ·rfl
 ·rename_i hg
  apply List.ext_getElem?
  intro j;rw [List.getElem?_set]
  split
  ·rename_i e
   subst e
   split
   ·rename_i hl
    rw [List.getD_eq_getElem?_getD,List.getElem?_eq_getElem hl] at hg;rw [List.getElem?_eq_getElem hl];exact congrArg some hg
   ·rename_i hl
    exact List.getElem?_eq_none j0
  ·rfl
theorem fold_S: ∀(mk: List Int) (h: HS),(mk.foldl (fun g a=>g.clear a.toNat) h).S=unS mk h.S
 | [],h=>rfl
 | a::mk,h=>by
  show (mk.foldl _ (h.clear a.toNat)).S=unS mk (h.S.set a.toNat none)
  rw [fold_S mk,clear_S]
theorem place_un {h: HS} (hO: h.Ok) {b: PB} {mk: List Int} (hp: ¬(h.place b).2 < 0): unS (mk++ [(h.place b).2]) (h.place b).1.S=unS mk h.S:=by
 obtain⟨h1,h2⟩:=fk hO (b:=b);have h3: rmS h.S b.size=(((rmS h.S b.size).toNat: Nat): Int):=by omega
 have h4:=hO.fr b.size_pos _ h3;rw [h1,h2];unfold addS;rw [if_neg j0,h3,Int.toNat_natCast];exact unS_add h4
mutual
theorem bldS_un {vars: List Wd} {mo: Int->Bool}: ∀(t: Tm) (h: HS) (mk: List Int),(∀ x ∈ nds t,x.l.length<=64)->MO h mk->unS (bldS vars mo t (h,mk)).1.2 (bldS vars mo t (h,mk)).1.1.S=unS mk h.S
 | .mk k n s l,h,mk,hn,hm=>by
  have hl:=bldL_un (vars:=vars) (mo:=mo) l h mk (fun x hx=>hn x (by rw [nds];exact List.mem_cons_of_mem _ hx)) hm;have ho:=fy (vars:=vars) (mo:=mo) l h mk (fun x hx=>hn x (by rw [nds];exact List.mem_cons_of_mem _ hx)) hm;rw [bldS]
  split
  ·rfl
  ·split
   ·rfl
   ·split
    ·rfl
    ·split
     ·rfl
     ·split
      ·rename_i st' h1;rw [h1] at hl;exact hl
      ·rename_i st' ws h1
       rw [h1] at hl ho
       by_cases hp:(st'.1.place (if k=5 then PB.fn s ws else PB.vec ws)).2 < 0
       ·rw [if_pos hp];exact hl
       ·rw [if_neg hp];exact(place_un ho.1.ok hp).trans hl
theorem bldL_un {vars: List Wd} {mo: Int->Bool}: ∀(ts: List Tm) (h: HS) (mk: List Int),(∀ x ∈ ndsL ts,x.l.length<=64)->MO h mk->unS (bldL vars mo ts (h,mk)).1.2 (bldL vars mo ts (h,mk)).1.1.S=unS mk h.S
 | [],h,mk,_,hm=>by rw [bldL]
 | t::ts,h,mk,hn,hm=>by
  have h1:=bldS_un (vars:=vars) (mo:=mo) t h mk (fun x hx=>hn x (by rw [ndsL];exact List.mem_append_left _ hx)) hm;have ho:=dT (vars:=vars) (mo:=mo) t h mk (fun x hx=>hn x (by rw [ndsL];exact List.mem_append_left _ hx)) hm;rw [cA]
  split
  ·rename_i st' e;rw [e] at h1;exact h1
  ·rename_i st' w e
   rw [e] at h1 ho;have h2:=bldL_un (vars:=vars) (mo:=mo) ts st'.1 st'.2 (fun x hx=>hn x (by rw [ndsL];exact List.mem_append_right _ hx)) ho
   split
   ·rename_i e2;rw [e2] at h2;exact h2.trans h1
   ·rename_i e2;rw [e2] at h2;exact h2.trans h1
end
theorem bld_end {h: HS} (hO: h.Ok) {b: PB} {mk: List Int} {tg: Int} (ht: b.tag=tg) {o:(HS × List Int) × Option Wd} (ho: o=if (h.place b).2 < 0 then ((h,mk),none) else (((h.place b).1,mk++ [(h.place b).2]),some ⟨tg,(h.place b).2,⟨#[]⟩,true⟩)):(addW h.S b).1=wdO o.2/\(addW h.S b).2=o.2.isSome/\addS h.S b=o.1.1.S:=by
 obtain⟨h1,h2⟩:=fk hO (b:=b)
 by_cases hp:(h.place b).2 < 0
 ·rw [if_pos hp] at ho;rw [ho];rw [h2] at hp;unfold addW addS;rw [if_pos hp,if_pos hp];exact⟨rfl,rfl,rfl⟩
 ·rw [if_neg hp] at ho;rw [ho];refine⟨?_,?_,h1.symm⟩
  ·rw [h2] at hp;unfold addW;rw [if_neg hp,<- h2,ht];rfl
  ·rw [h2] at hp;unfold addW;rw [if_neg hp];rfl
theorem nodeR_vec {t: Tm} (h: nodeR t=true) (hk: t.kind=6): t.s=⟨#[]⟩:=by
 unfold nodeR at h;rw [if_neg j0,if_neg j0,if_neg j0,if_neg j0,if_neg j0,if_pos hk] at h;simp only [Bool.and_eq_true,decide_eq_true_eq] at h;exact h.1.2
def NV (n: Nat) (t: Tm): Prop:= ∀ x ∈ nds t,nodeR x=true/\(x.kind=1->x.n < n)
theorem NV.sub {n: Nat} {t u: Tm} {j: Nat} (h: NV n t) (hu: t.l[j]? =some u): NV n u:=fun x hx=>h x (by rw [dM,cc hu];simp [hx])
theorem NV.self {n: Nat} {t: Tm} (h: NV n t): nodeR t=true/\(t.kind=1->t.n < n):=h t (by rw [dM];exact List.mem_cons_self)
theorem NV.len {n: Nat} {t: Tm} (h: NV n t): ∀ x ∈ nds t,x.l.length<=64:=fun x hx=>cG (h x hx).1
theorem NV.step {n: Nat} {t u: Tm} {j: Nat} (h: NV n t) (hu: t.l[j]? =some u) {vars: List Wd} {mo: Int->Bool} {hh: HS} {mm: List Int} (hm: MO hh mm): MO (bldS vars mo u (hh,mm)).1.1 (bldS vars mo u (hh,mm)).1.2:=dT u hh mm (h.sub hu).len hm
theorem wd_of {vars: List Wd} {j: Nat} {x: Wd} (h: vars[j]? =some x): vars.getD j Wd.zero=x:=by rw [List.getD_eq_getElem?_getD,h];rfl
theorem unS_len: ∀(mk: List Int) (S: PS),(unS mk S).length=S.length
 | [],S=>rfl
 | a::mk,S=>by
  show (unS mk (S.set a.toNat none)).length=_
  rw [unS_len mk,List.length_set]
theorem ei {t: Tm} (ht: isTm t=true) (m: Nat):((varsN [t]).any fun v=>decide ((m: Int)<=v))=decide ((m: Int)<=grR t):=by
 have h1:=gk (n:=(m: Int)) j0 t fun x hx hk=>(cd (bj ht x hx) hk).2.2.2
 by_cases h2: grR t < m
 ·rw [decide_eq_false j0]
  cases h3:(varsN [t]).any fun v=>decide ((m: Int)<=v) with
  | false=>rfl
  | true =>
   obtain⟨v,hv,h4⟩:=List.any_eq_true.1 h3;have h5:=fK (p:=fun v=>v <(m: Int)) (ndsL [t]) [] (fun v hv=>by cases hv) (fun x hx hk=>h1.1 h2 x (by rw [<- fe];exact hx) hk) v hv;have h4:(m: Int)<=v:=by simpa using h4
   have h5: v <(m: Int):=h5;omega
 ·rw [decide_eq_true j0]
  cases h3:(varsN [t]).any fun v=>decide ((m: Int)<=v) with
  | true=>rfl
  | false =>
   exfalso
   apply h2
   refine h1.2 fun x hx hk=>?_;have h4:=List.any_eq_false.1 h3 _ (vars_mem hx hk);have h4: ¬(m: Int)<=x.n:=by simpa using h4
   omega
section
variable {h: HS} {t: Tm} {vars: List Wd}
theorem build_e1 (h1: isTm t=false): h.build t vars=(h,(Wd.zero,3)):=by unfold HS.build;rw [if_pos h1]
theorem build_e2 (h1: isTm t=true) (h2: allS h.S vars=false): h.build t vars=(h,(Wd.zero,211)):=by unfold HS.build;rw [if_neg (by rw [h1];simp),if_pos h2]
theorem build_e3 (h1: isTm t=true) (h2: allS h.S vars=true) (h3:(vars.length: Int)<=grR t): h.build t vars=(h,(Wd.zero,1)):=by unfold HS.build;rw [if_neg (by rw [h1];simp),if_neg (by rw [h2];simp),ei h1,if_pos (decide_eq_true h3)]
end
end Go.Vk
