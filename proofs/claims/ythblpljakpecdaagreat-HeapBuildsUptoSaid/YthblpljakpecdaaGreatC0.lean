/- Part 0 of the proof of heapBuilds_holds. Conditions: none. -/
import Derived.WalkKit
import Derived.KernelRfl
import Derived.Deep.Draws
import Derived.Deep.LoopGhost
import Derived.Orders
import Derived.Maps.AppendAt
import Derived.Lib.AppendZerosOnto
import Derived.Lib.SliceRun
import Derived.WalkSpells
import Derived.Test.YthblpljakpecdaaGreatProg
import Derived.RangeFuncNested
import Derived.RangeFuncCalls
import Derived.RangeFuncLeaves
import Derived.Scope
import Derived.Maps.Own
import Derived.Maps.Views
import Derived.LaidEql
import Derived.Laws.StructEq
import Derived.Shelf.Strconv.Clone
import Derived.Maps.Range
import Derived.Maps.RangeWalk
import Derived.Test.YthblpljakpecdaaGreatRows
import Derived.ProofKit
import Derived.Deep.Slices
import Derived.JoinedCond
import Derived.OpenShut
set_option linter.unusedVariables false
set_option linter.unusedSimpArgs false
set_option linter.unusedSectionVars false
set_option maxRecDepth 100000
open Go.Proofs.Tryz
namespace Go.Vk
open Go.RowKit
theorem J {α: Sort _} {a: α}: a=a:=rfl
abbrev Env:=List (Nat × Value)
def lk: Env->Nat->Option Value
 | [],_=>none
 |(k,v)::m,t=>bif Nat.beq k t then some v else lk m t
structure Has (D: List Deferred) (a: Act) (N: Nat) (m: Env): Prop where
 size: a.tmps.size=N
 dfr: a.defers=D
 get: ∀ k v,lk m k=some v->a.tmps[k]? =some v
def ev (m: Env): Operand->Option Value
 | .tmp t=>lk m t
 | .const v=>some v
 | .global g=>some (.pointer (some ⟨g,0,none⟩))
 | .func f=>some (.func (.func f) #[] #[])
theorem Has.ev {D: List Deferred} {a: Act} {N: Nat} {m: Env} {x: Operand} {v: Value} (h: Has D a N m) (e: ev m x=some v): a.eval x=v:=by
 cases x with
 | tmp t =>
  have h1:=h.get t v e
  show a.tmps.getD t undef=v
  simp [Array.getD_eq_getD_getElem?,h1]
 | const u=>exact Option.some.inj e
 | global g=>exact Option.some.inj e
 | func f=>exact Option.some.inj e
theorem Has.put {D: List Deferred} {a: Act} {N: Nat} {m: Env} (h: Has D a N m) {d: Nat} (hd: Nat.blt d N=true) (v: Value): Has D (a.put (some d) v) N ((d,v)::m):=by
 have hd': d < N:=by simpa [Nat.blt_eq] using hd
 refine⟨by simp [Act.put,h.size],h.dfr,fun k u e=>?_⟩;simp only [lk] at e
 show (a.tmps.setIfInBounds d v)[k]? =some u
 rw [Array.getElem?_setIfInBounds]
 by_cases hk: d=k
 ·subst hk;rw [show Nat.beq d d=true from Nat.beq_refl d] at e;simp only [cond_true] at e;rw [if_pos J,if_pos (by rw [h.size];exact hd')];exact e
 ·rw [show Nat.beq d k=false from by rw [Bool.eq_false_iff];intro hh;exact hk (Nat.eq_of_beq_eq_true hh)] at e;simp only [cond_false] at e;rw [if_neg hk];exact h.get k u e
theorem Has.put_none {D: List Deferred} {a: Act} {N: Nat} {m: Env} (h: Has D a N m) (v: Value): Has D (a.put none v) N m:=h
theorem Has.sub {D: List Deferred} {a: Act} {N: Nat} {m m': Env} (h: Has D a N m) (hs: ∀ k v,lk m' k=some v->lk m k=some v): Has D a N m':=⟨h.size,h.dfr,fun k v e=>h.get k v (hs k v e)⟩
theorem Has.cons {D: List Deferred} {a: Act} {N: Nat} {m m': Env} {k: Nat} {v: Value} (h: Has D a N m) (e: lk m k=some v) (h': Has D a N m'): Has D a N ((k,v)::m'):=by
 refine⟨h.size,h.dfr,fun j u hj=>?_⟩;simp only [lk] at hj
 cases hb: Nat.beq k j with
 | true =>
  rw [hb] at hj;simp only [cond_true] at hj;rw [<- Nat.eq_of_beq_eq_true hb,<- Option.some.inj hj];exact h.get k v e
 | false =>
  rw [hb] at hj;exact h'.get j u hj
theorem Has.nil {D: List Deferred} {a: Act} {N: Nat} {m: Env} (h: Has D a N m): Has D a N []:=⟨h.size,h.dfr,fun k v e=>by cases e⟩
def pick (m: Env): List Nat->Env
 | []=> []
 | k::ks=>match lk m k with
  | some v=>(k,v)::pick m ks
  | none=>pick m ks
theorem Has.pick {D: List Deferred} {a: Act} {N: Nat} {m: Env} (h: Has D a N m): ∀ ks,Has D a N (pick m ks)
 | []=>h.nil
 | k::ks=>by
  unfold Vk.pick
  split
  ·rename_i v e
   exact Has.cons h e (h.pick ks)
  ·exact h.pick ks
def keys: Env->List Nat
 | []=> []
 |(k,_)::m=>k::keys m
theorem Has.pk {D: List Deferred} {a: Act} {N: Nat} {m E: Env} (h: Has D a N m) (e: Vk.pick m (keys E)=E): Has D a N E:=e ▸ h.pick (keys E)
def args (i: Nat): List Value->Env
 | []=> []
 | v::vs=>(i,v)::args (i+1) vs
theorem fM: ∀(vs: List Value) (i k: Nat) (v: Value),lk (args i vs) k=some v->i<=k/\vs[k - i]? =some v
 | [],_,_,_,h=>by cases h
 | u::vs,i,k,v,h=>by
  simp only [args,lk] at h
  cases hb: Nat.beq i k with
  | true =>
   rw [hb] at h;have:=Nat.eq_of_beq_eq_true hb;subst this;simp only [cond_true] at h;exact⟨Nat.le_refl _,by simpa using h⟩
  | false =>
   rw [hb] at h;obtain⟨h1,h2⟩:=fM vs (i+1) k v h;refine⟨by omega,?_⟩;rw [show k - i=(k - (i+1))+1 by omega];simpa using h2
abbrev PHeap:=Nat->Option Obj
abbrev Ent:=Option Nat × Obj
def dom (L: List Ent) (k: Nat): Prop:= ∃ e,e ∈ L/\e.1=some k
theorem aV {e: Ent} {L: List Ent} {k: Nat}: dom (e::L) k↔e.1=some k\/dom L k:=by
 constructor
 ·rintro⟨x,hx,hk⟩
  rcases List.mem_cons.1 hx with rfl | hx
  ·exact .inl hk
  ·exact .inr ⟨x,hx,hk⟩
 ·rintro(h |⟨x,hx,hk⟩)
  ·exact⟨e,List.mem_cons_self,h⟩
  ·exact⟨x,List.mem_cons_of_mem _ hx,hk⟩
theorem bi {L R: List Ent} {k: Nat}: dom (L++R) k↔dom L k\/dom R k:=by
 constructor
 ·rintro⟨x,hx,hk⟩
  rcases List.mem_append.1 hx with hx | hx
  ·exact .inl ⟨x,hx,hk⟩
  ·exact .inr ⟨x,hx,hk⟩
 ·rintro(⟨x,hx,hk⟩ |⟨x,hx,hk⟩)
  ·exact⟨x,List.mem_append_left _ hx,hk⟩
  ·exact⟨x,List.mem_append_right _ hx,hk⟩
theorem cj {k: Nat}: ¬ dom [] k:=by rintro⟨x,hx,_⟩;cases hx
structure Inv (w: World) (H: PHeap) (L: List Ent): Prop where
 own: ∀ e,e ∈ L->∀ b,e.1=some b->w.heap[b]? =some e.2
 pw: L.Pairwise (fun x y=> ∀ b,x.1=some b->y.1≠some b)
 ext: ∀ k o,H k=some o->w.heap[k]? =some o/\¬ dom L k
theorem Inv.lt {w: World} {H: PHeap} {L: List Ent} (h: Inv w H L) {k: Nat} (hk: dom L k): k < w.heap.size:=by
 obtain⟨e,he,hb⟩:=hk;exact(Array.getElem?_eq_some_iff.1 (h.own e he k hb)).1
theorem Inv.hlt {w: World} {H: PHeap} {L: List Ent} (h: Inv w H L) {k: Nat} {o: Obj} (hk: H k=some o): k < w.heap.size:=
 (Array.getElem?_eq_some_iff.1 (h.ext k o hk).1).1
def Le (H H': PHeap): Prop:= ∀ k o,H k=some o->H' k=some o
theorem Le.refl (H: PHeap): Le H H:=fun _ _ h=>h
theorem Le.trans {H H' H'': PHeap} (h: Le H H') (h': Le H' H''): Le H H'':=fun k o e=>h' k o (h k o e)
structure Step (w0: World) (H0: PHeap) (L0: List Ent) (w: World) (H: PHeap) (L: List Ent): Prop where
 os: w.os=w0.os
 tape: w.tape=w0.tape
 output: w.output=w0.output
 size: w0.heap.size<=w.heap.size
 blk: ∀ k,k < w0.heap.size->¬ dom L0 k->w.heap[k]? =w0.heap[k]?
 inv: Inv w H L
 le: Le H0 H
 newH: ∀ k o,H k=some o->H0 k=some o\/w0.heap.size<=k\/dom L0 k
 newL: ∀ k,dom L k->w0.heap.size<=k\/dom L0 k
theorem Step.refl {w: World} {H: PHeap} {L: List Ent} (h: Inv w H L): Step w H L w H L:=
 ⟨rfl,rfl,rfl,Nat.le_refl _,fun _ _ _=>rfl,h,Le.refl _,fun _ _ h=>.inl h,fun _ h=>.inr h⟩
theorem Inv.left {w: World} {H: PHeap} {L R: List Ent} (h: Inv w H (L++R)): Inv w H L:=
 ⟨fun e he=>h.own e (List.mem_append_left _ he),(List.pairwise_append.1 h.pw).1,fun k o hk=>⟨(h.ext k o hk).1,fun hd=>(h.ext k o hk).2 (bi.2 (.inl hd))⟩⟩
theorem Step.frame {w0 w w': World} {H0 H H': PHeap} {L0 Lc Lc' R: List Ent} (h: Step w0 H0 L0 w H (Lc++R)) (c: Step w H Lc w' H' Lc'): Step w0 H0 L0 w' H' (Lc'++R):=by
 have hpw:=List.pairwise_append.1 h.inv.pw;have hRc: ∀ b,dom R b->¬ dom Lc b:=by
  rintro b ⟨r,hr,hrb⟩ ⟨e,he,heb⟩;exact hpw.2.2 e he r hr b heb hrb
 have hRlt: ∀ b,dom R b->b < w.heap.size:=fun b hb=>h.inv.lt (bi.2 (.inr hb));have hRn: ∀ b,dom R b->¬ dom Lc' b:=fun b hb hd=>by
  rcases c.newL b hd with h1 | h1
  ·have:=hRlt b hb;omega
  ·exact hRc b hb h1
 refine⟨c.os.trans h.os,c.tape.trans h.tape,c.output.trans h.output,Nat.le_trans h.size c.size,fun k hk hd=>?_,⟨fun e he b hb=>?_,?_,fun k o hk=>⟨(c.inv.ext k o hk).1,fun hd=>?_⟩⟩,h.le.trans c.le,fun k o hk=>?_,fun k hk=>?_⟩
 ·have h1: ¬ dom Lc k:=fun hh=>by
   rcases h.newL k (bi.2 (.inl hh)) with h2 | h2
   ·omega
   ·exact hd h2
  exact(c.blk k (by have:=h.size;omega) h1).trans (h.blk k hk hd)
 ·rcases List.mem_append.1 he with he | he
  ·exact c.inv.own e he b hb
  ·have hdb: dom R b:=⟨e,he,hb⟩;rw [c.blk b (hRlt b hdb) (hRc b hdb)];exact h.inv.own e (List.mem_append_right _ he) b hb
 ·refine List.pairwise_append.2 ⟨c.inv.pw,hpw.2.1,fun x hx y hy b hb hyb=>?_⟩;exact hRn b ⟨y,hy,hyb⟩ ⟨x,hx,hb⟩
 ·rcases bi.1 hd with hd | hd
  ·exact(c.inv.ext k o hk).2 hd
  ·rcases c.newH k o hk with h1 | h1 | h1
   ·exact(h.inv.ext k o h1).2 (bi.2 (.inr hd))
   ·have:=hRlt k hd;omega
   ·exact hRc k hd h1
 ·rcases c.newH k o hk with h1 | h1 | h1
  ·exact h.newH k o h1
  ·exact .inr (.inl (Nat.le_trans h.size h1))
  ·exact .inr (h.newL k (bi.2 (.inl h1)))
 ·rcases bi.1 hk with hk | hk
  ·rcases c.newL k hk with h1 | h1
   ·exact .inl (Nat.le_trans h.size h1)
   ·exact h.newL k (bi.2 (.inl h1))
  ·exact h.newL k (bi.2 (.inr hk))
theorem Step.call {w0 w w': World} {H0 H H': PHeap} {L0 L: List Ent} (h: Step w0 H0 L0 w H L) (c: Step w H [] w' H' []): Step w0 H0 L0 w' H' L:=Step.frame (Lc:= []) (Lc':= []) h c
theorem Step.calls {w0 w w': World} {H0 H H': PHeap} {L0 L L': List Ent} (h: Step w0 H0 L0 w H L) (c: Step w H L w' H' L'): Step w0 H0 L0 w' H' L':=by
 have:=Step.frame (R:= []) (by simpa using h) c;simpa using this
theorem Inv.perm {w: World} {H: PHeap} {L L': List Ent} (h: Inv w H L) (p: L.Perm L'): Inv w H L':=by
 have hd: ∀ k,dom L' k->dom L k:=fun k ⟨e,he,hb⟩=>⟨e,p.mem_iff.2 he,hb⟩;refine⟨fun e he=>h.own e (p.mem_iff.2 he),(p.pairwise_iff ?_).1 h.pw,fun k o hk=>⟨(h.ext k o hk).1,fun hh=>(h.ext k o hk).2 (hd k hh)⟩⟩;intro x y hxy b hy hx;exact hxy b hx hy
theorem Step.perm {w0 w: World} {H0 H: PHeap} {L0 L L': List Ent} (h: Step w0 H0 L0 w H L) (p: L.Perm L'): Step w0 H0 L0 w H L':=
 ⟨h.os,h.tape,h.output,h.size,h.blk,h.inv.perm p,h.le,h.newH,fun k ⟨e,he,hb⟩=>h.newL k ⟨e,p.mem_iff.2 he,hb⟩⟩
theorem dP: ∀(L: List Ent) (i: Nat) (e: Ent),L[i]? =some e->L.Perm (e::L.eraseIdx i)
 | [],i,e,h=>by simp at h
 | x::L,0,e,h=>by
  have: x=e:=by simpa using h
  subst this;exact List.Perm.refl _
 | x::L,i+1,e,h=>by
  have h1:=dP L i e (by simpa using h);exact(h1.cons x).trans (List.Perm.swap e x _)
theorem Step.front {w0 w: World} {H0 H: PHeap} {L0 L: List Ent} (h: Step w0 H0 L0 w H L) (i: Nat) {e: Ent} (hi: L[i]? =some e): Step w0 H0 L0 w H (e::L.eraseIdx i):=h.perm (dP L i e hi)
theorem Inv.drop {w: World} {H: PHeap} {e: Ent} {L: List Ent} (h: Inv w H (e::L)): Inv w H L:=
 ⟨fun x hx=>h.own x (List.mem_cons_of_mem _ hx),(List.pairwise_cons.1 h.pw).2,fun k o hk=>⟨(h.ext k o hk).1,fun hd=>(h.ext k o hk).2 (aV.2 (.inr hd))⟩⟩
theorem Step.drop {w0 w: World} {H0 H: PHeap} {L0 L: List Ent} {e: Ent} (h: Step w0 H0 L0 w H (e::L)): Step w0 H0 L0 w H L:=
 ⟨h.os,h.tape,h.output,h.size,h.blk,h.inv.drop,h.le,h.newH,fun k hk=>h.newL k (aV.2 (.inr hk))⟩
theorem Step.dropN {w0 w: World} {H0 H: PHeap} {L0: List Ent}: ∀(L R: List Ent),Step w0 H0 L0 w H (L++R)->Step w0 H0 L0 w H R
 | [],_,h=>h
 | _::L,R,h=>Step.dropN L R h.drop
theorem Step.drop_all {w0 w: World} {H0 H: PHeap} {L0 L: List Ent} (h: Step w0 H0 L0 w H L): Step w0 H0 L0 w H []:=Step.dropN L [] (by simpa using h)
theorem Step.plain {w0 w: World} {H0 H: PHeap} {L0 L: List Ent} (h: Step w0 H0 L0 w H L): Step w0 H0 L0 w H0 L:=
 ⟨h.os,h.tape,h.output,h.size,h.blk,⟨h.inv.own,h.inv.pw,fun k o hk=>h.inv.ext k o (h.le k o hk)⟩,Le.refl _,fun _ _ h=>.inl h,h.newL⟩
theorem Step.drew {w0 w: World} {H0 H: PHeap} {L0 L: List Ent} (h: Step w0 H0 L0 w H L): Step w0 H0 L0 w.drew H L:=
 ⟨h.os,h.tape,h.output,h.size,h.blk,⟨h.inv.own,h.inv.pw,h.inv.ext⟩,h.le,h.newH,h.newL⟩
theorem Step.alloc {w0 w: World} {H0 H: PHeap} {L0 L: List Ent} (h: Step w0 H0 L0 w H L) (o: Obj): Step w0 H0 L0 (w.alloc o) H ((some w.heap.size,o)::L):=by
 have hsz:(w.alloc o).heap.size=w.heap.size+1:=by
  show (w.heap.push o).size=_
  simp
 have hold: ∀ k,k < w.heap.size->(w.alloc o).heap[k]? =w.heap[k]?:=fun k hk=>heap_alloc_old w o hk;refine⟨h.os,h.tape,h.output,by have:=h.size;omega,fun k hk hd=>(hold k (by have:=h.size;omega)).trans (h.blk k hk hd),⟨fun e he b hb=>?_,?_,fun k p hk=>?_⟩,h.le,h.newH,fun k hk=>?_⟩
 ·rcases List.mem_cons.1 he with rfl | he
  ·have: w.heap.size=b:=Option.some.inj hb;subst this;exact heap_alloc_new w o
  ·rw [hold b (h.inv.lt ⟨e,he,hb⟩)];exact h.inv.own e he b hb
 ·refine List.pairwise_cons.2 ⟨fun y hy b hb hyb=>?_,h.inv.pw⟩;have: w.heap.size=b:=Option.some.inj hb;have:=h.inv.lt ⟨y,hy,hyb⟩;omega
 ·refine⟨(hold k (h.inv.hlt hk)).trans (h.inv.ext k p hk).1,fun hd=>?_⟩
  rcases aV.1 hd with h1 | h1
  ·have: w.heap.size=k:=Option.some.inj h1;have:=h.inv.hlt hk;omega
  ·exact(h.inv.ext k p hk).2 h1
 ·rcases aV.1 hk with h1 | h1
  ·have: w.heap.size=k:=Option.some.inj h1;have:=h.size;exact .inl (by omega)
  ·exact h.newL k h1
def PHeap.put (H: PHeap) (b: Nat) (o: Obj): PHeap:=fun k=>bif Nat.beq k b then some o else H k
theorem PHeap.put_at (H: PHeap) (b: Nat) (o: Obj): H.put b o b=some o:=by simp [PHeap.put]
theorem PHeap.put_ne (H: PHeap) (b: Nat) (o: Obj) {k: Nat} (h: k≠b): H.put b o k=H k:=by
 unfold PHeap.put;rw [show Nat.beq k b=false from by rw [Bool.eq_false_iff];intro hh;exact h (Nat.eq_of_beq_eq_true hh)];rfl
theorem Step.release {w0 w: World} {H0 H: PHeap} {L0 L: List Ent} {b: Nat} {o: Obj} (h: Step w0 H0 L0 w H ((some b,o)::L)) :
  Step w0 H0 L0 w (H.put b o) L/\Le H (H.put b o):=by
 have hb: H b=none:=by
  cases hh: H b with
  | none=>rfl
  | some p=>exact absurd (aV.2 (.inl J)) (h.inv.ext b p hh).2
 have hle: Le H (H.put b o):=fun k p hk=>by
  rw [PHeap.put_ne _ _ _ (fun e=>by subst e;rw [hb] at hk;cases hk)];exact hk
 have hpw:=List.pairwise_cons.1 h.inv.pw;refine⟨⟨h.os,h.tape,h.output,h.size,h.blk,⟨h.inv.drop.own,h.inv.drop.pw,fun k p hk=>?_⟩,h.le.trans hle,fun k p hk=>?_,fun k hk=>h.newL k (aV.2 (.inr hk))⟩,hle⟩
 ·by_cases hkb: k=b
  ·subst hkb;rw [PHeap.put_at] at hk;obtain rfl:=Option.some.inj hk;refine⟨h.inv.own _ List.mem_cons_self k J,fun ⟨e,he,heb⟩=>hpw.1 e he k J heb⟩
  ·rw [PHeap.put_ne _ _ _ hkb] at hk;exact⟨(h.inv.ext k p hk).1,fun hd=>(h.inv.ext k p hk).2 (aV.2 (.inr hd))⟩
 ·by_cases hkb: k=b
  ·subst hkb;exact .inr (h.newL k (aV.2 (.inl J)))
  ·rw [PHeap.put_ne _ _ _ hkb] at hk;exact h.newH k p hk
theorem Step.write {w0 w: World} {H0 H: PHeap} {L0 L: List Ent} (h: Step w0 H0 L0 w H L) (i: Nat) {b: Nat} {o: Obj} (hi: L[i]? =some (some b,o)) (o': Obj) {w': World}
  (hos: w'.os=w.os) (htape: w'.tape=w.tape) (hout: w'.output=w.output) (hsz: w'.heap.size=w.heap.size) (hb: w'.heap[b]? =some o') (hne: ∀ k,k≠b->w'.heap[k]? =w.heap[k]?): Step w0 H0 L0 w' H (L.set i (some b,o')):=by
 have hil: i < L.length:=(List.getElem?_eq_some_iff.1 hi).1;have hii: L[i]=(some b,o):=(List.getElem?_eq_some_iff.1 hi).2;have hdom: ∀ k,dom (L.set i (some b,o')) k↔dom L k:=by
  intro k
  constructor
  ·rintro⟨e,he,hk⟩
   rcases List.mem_or_eq_of_mem_set he with he | rfl
   ·exact⟨e,he,hk⟩
   ·exact⟨(some b,o),List.mem_of_getElem? hi,hk⟩
  ·rintro⟨e,he,hk⟩;obtain⟨j,hj⟩:=List.getElem?_of_mem he
   by_cases hij: i=j
   ·subst hij;rw [hi] at hj;obtain rfl:=Option.some.inj hj;exact⟨(some b,o'),List.mem_of_getElem? (i:=i) (by rw [List.getElem?_set_self hil]),hk⟩
   ·exact⟨e,List.mem_of_getElem? (i:=j) (by rw [List.getElem?_set_ne hij];exact hj),hk⟩
 have hdb: dom L b:=⟨(some b,o),List.mem_of_getElem? hi,rfl⟩;have huniq: ∀ j e,L[j]? =some e->e.1=some b->j=i:=by
  intro j e hj he;have hjl: j < L.length:=(List.getElem?_eq_some_iff.1 hj).1;have hjj: L[j]=e:=(List.getElem?_eq_some_iff.1 hj).2
  rcases Nat.lt_trichotomy j i with hlt | heq | hlt
  ·exact absurd (by rw [hii]) ((List.pairwise_iff_getElem.1 h.inv.pw) j i hjl hil hlt b (by rw [hjj];exact he))
  ·exact heq
  ·exact absurd (by rw [hjj];exact he) ((List.pairwise_iff_getElem.1 h.inv.pw) i j hil hjl hlt b (by rw [hii]))
 refine⟨hos.trans h.os,htape.trans h.tape,hout.trans h.output,by rw [hsz];exact h.size,fun k hk hd=>?_,⟨fun e he c hc=>?_,?_,fun k p hk=>?_⟩,h.le,h.newH,fun k hk=>h.newL k ((hdom k).1 hk)⟩
 ·have hkb: k≠b:=fun e=>by
   subst e
   rcases h.newL k hdb with h1 | h1
   ·omega
   ·exact hd h1
  exact(hne k hkb).trans (h.blk k hk hd)
 ·obtain⟨j,hj⟩:=List.getElem?_of_mem he
  by_cases hij: i=j
  ·subst hij;rw [List.getElem?_set_self hil] at hj;obtain rfl:=Option.some.inj hj;obtain rfl:=Option.some.inj hc;exact hb
  ·rw [List.getElem?_set_ne hij] at hj;have hcb: c≠b:=fun e'=>by
    subst e';exact hij (huniq j e hj hc).symm
   rw [hne c hcb];exact h.inv.own e (List.mem_of_getElem? hj) c hc
 ·rw [List.pairwise_iff_getElem];intro x y hx hy hxy c hcx hcy;have hx': x < L.length:=by simpa using hx
  have hy': y < L.length:=by simpa using hy
  have key: ∀ z (hz: z <(L.set i (some b,o')).length) (hz': z < L.length),(L.set i (some b,o'))[z].1=L[z].1:=by
   intro z hz hz';rw [List.getElem_set]
   split
   ·rename_i e
    subst e;rw [hii]
   ·rfl
  rw [key x hx hx'] at hcx;rw [key y hy hy'] at hcy;exact(List.pairwise_iff_getElem.1 h.inv.pw) x y hx' hy' hxy c hcx hcy
 ·obtain⟨h1,h2⟩:=h.inv.ext k p hk;refine⟨(hne k (fun e=>by subst e;exact h2 hdb)).trans h1,fun hd=>h2 ((hdom k).1 hd)⟩
theorem Inv.at_ {w: World} {H: PHeap} {L: List Ent} (h: Inv w H L) (i: Nat) {b: Nat} {o: Obj} (hi: L[i]? =some (some b,o)): w.heap[b]? =some o:=h.own _ (List.mem_of_getElem? hi) b J
end Go.Vk
namespace Go.Vk
open Go.RowKit
theorem j4 {p: Prop} (h: p:=by first | omega |(simp;omega)): p:=h
theorem j3 {p: Prop} (h: p:=by kernel_rfl): p:=h
theorem j2 {p: Prop} (h: p:=by decide): p:=h
theorem j1 {p: Prop} (h: p:=by simp): p:=h
theorem j0 {p: Prop} (h: p:=by omega): p:=h
structure Ty (P: Program) (t: TypeId) (d: TypeDesc) (sz bytes: Nat) (z: Value): Prop where
 und: P.underlying t=some d
 inf:(P.info? t).map (fun i=>(i.zero,i.size,i.bytes))=some (some z,sz,bytes)
section
variable {P: Program} {t: TypeId} {dd: TypeDesc} {sz bytes: Nat} {z: Value}
theorem Ty.info (T: Ty P t dd sz bytes z): ∃ i,P.info? t=some i/\i.zero=some z/\i.size=sz/\i.bytes=bytes:=by
 obtain⟨i,hi,hz⟩:=Option.map_eq_some_iff.1 T.inf;simp only [Prod.mk.injEq] at hz;exact⟨i,hi,hz.1,hz.2.1,hz.2.2⟩
theorem Ty.run_sizeOf (T: Ty P t dd sz bytes z) (w: World):(sizeOf t).run P w=.ok sz w:=by
 obtain⟨i,hi,_,hs,_⟩:=T.info;simp [sizeOf,typeInfo,hi,hs]
theorem Ty.run_zero (T: Ty P t dd sz bytes z) (w: World):(zeroValue t).run P w=.ok z w:=by
 obtain⟨i,hi,hz,_,_⟩:=T.info;simp [zeroValue,typeInfo,hi,hz]
theorem Ty.run_und (T: Ty P t dd sz bytes z) (w: World):(underlying t).run P w=.ok dd w:=run_underlying T.und w
end
def TypeDesc.flat: TypeDesc->Bool
 | .struct _ | .array _ _=>false
 | _=>true
section
variable {P: Program} {K: Act->World->Prop} {Q: Exit->Act->World->Prop} {D: List Deferred} {a: Act} {w: World} {N: Nat} {m: Env} {d: Nat} {ty: TypeId} {pos: String} {aft: Array Edge} {g: Option (Nat × Bool)}
variable {w0: World} {H0 H: PHeap} {L0 L: List Ent}
theorem aM {op: Op} {v: Value} {w': World} (hr:(execOp a.eval ⟨some d,op,ty,pos,aft,g⟩).run P w=.ok (.value v) w') (ha: Has D a N m) (hd: Nat.blt d N=true) (k: ∀ a',Has D a' N ((d,v)::m)->K a' w') :
  Oper.wp P ⟨some d,op,ty,pos,aft,g⟩ a w K Q:=by
 unfold Oper.wp;rw [hr];exact k _ (ha.put hd v)
theorem aq {x: Operand} {v: Value} (ha: Has D a N m) (hx: ev m x=some v) (hd: Nat.blt d N=true) (k: ∀ a',Has D a' N ((d,v)::m)->K a' w): Oper.wp P ⟨some d,.move x,ty,pos,aft,g⟩ a w K Q:=
 aM (by simp only [execOp,ha.ev hx];rfl) ha hd k
theorem bu {x: Operand} {v: Value} (ha: Has D a N m) (hx: ev m x=some v) (hd: Nat.blt d N=true) (k: ∀ a',Has D a' N ((d,v)::m)->K a' w): Oper.wp P ⟨some d,.assign x,ty,pos,aft,g⟩ a w K Q:=
 aM (by simp only [execOp,ha.ev hx];rfl) ha hd k
theorem an {c x y: Operand} {u: Value} (ha: Has D a N m) (hc: ev m c=some (.bool true)) (hx: ev m x=some u) (hd: Nat.blt d N=true)
  (k: ∀ a',Has D a' N ((d,u)::m)->K a' w): Oper.wp P ⟨some d,.pick c x y,ty,pos,aft,g⟩ a w K Q:=
 aM (by simp only [execOp,ha.ev hc,ha.ev hx];rfl) ha hd k
theorem ak {c x y: Operand} {u: Value} (ha: Has D a N m) (hc: ev m c=some (.bool false)) (hx: ev m y=some u) (hd: Nat.blt d N=true)
  (k: ∀ a',Has D a' N ((d,u)::m)->K a' w): Oper.wp P ⟨some d,.pick c x y,ty,pos,aft,g⟩ a w K Q:=
 aM (by simp only [execOp,ha.ev hc,ha.ev hx];rfl) ha hd k
theorem aK {x: Operand} {b: Bool} {tx: TypeId} (ha: Has D a N m) (hx: ev m x=some (.bool b)) (hd: Nat.blt d N=true) (k: ∀ a',Has D a' N ((d,.bool (!b))::m)->K a' w) :
  Oper.wp P ⟨some d,.unOp .not tx x,ty,pos,aft,g⟩ a w K Q:=
 aM (by simp only [execOp,ha.ev hx];rfl) ha hd k
section
variable {kk: IntKind} {x y: Operand} {i j: Int} {tx ty': TypeId}
theorem aJ (ha: Has D a N m) (hx: ev m x=some (.int kk i)) (hy: ev m y=some (.int kk j)) (hd: Nat.blt d N=true) (k: ∀ a',Has D a' N ((d,.bool (decide (i=j)))::m)->K a' w) :
  Oper.wp P ⟨some d,.binOp .eql tx x y ty',ty,pos,aft,g⟩ a w K Q:=
 aM (by simp [execOp,ha.ev hx,ha.ev hy,eqGuard,binOp,Op.intCmp];rfl) ha hd k
theorem bA (ha: Has D a N m) (hx: ev m x=some (.int kk i)) (hy: ev m y=some (.int kk j)) (hd: Nat.blt d N=true) (k: ∀ a',Has D a' N ((d,.bool (!decide (i=j)))::m)->K a' w) :
  Oper.wp P ⟨some d,.binOp .neq tx x y ty',ty,pos,aft,g⟩ a w K Q:=
 aM (by simp [execOp,ha.ev hx,ha.ev hy,eqGuard,binOp,Op.intCmp];rfl) ha hd k
theorem aQ (ha: Has D a N m) (hx: ev m x=some (.int kk i)) (hy: ev m y=some (.int kk j)) (hd: Nat.blt d N=true) (k: ∀ a',Has D a' N ((d,.bool (decide (i < j)))::m)->K a' w) :
  Oper.wp P ⟨some d,.binOp .lss tx x y ty',ty,pos,aft,g⟩ a w K Q:=
 aM (by simp [execOp,ha.ev hx,ha.ev hy,eqGuard,binOp,Op.intCmp]) ha hd k
theorem cY (ha: Has D a N m) (hx: ev m x=some (.int kk i)) (hy: ev m y=some (.int kk j)) (hd: Nat.blt d N=true) (k: ∀ a',Has D a' N ((d,.bool (decide (i<=j)))::m)->K a' w) :
  Oper.wp P ⟨some d,.binOp .leq tx x y ty',ty,pos,aft,g⟩ a w K Q:=
 aM (by simp [execOp,ha.ev hx,ha.ev hy,eqGuard,binOp,Op.intCmp]) ha hd k
theorem cx (ha: Has D a N m) (hx: ev m x=some (.int kk i)) (hy: ev m y=some (.int kk j)) (hd: Nat.blt d N=true) (k: ∀ a',Has D a' N ((d,.bool (decide (j < i)))::m)->K a' w) :
  Oper.wp P ⟨some d,.binOp .gtr tx x y ty',ty,pos,aft,g⟩ a w K Q:=
 aM (by simp [execOp,ha.ev hx,ha.ev hy,eqGuard,binOp,Op.intCmp]) ha hd k
theorem co (ha: Has D a N m) (hx: ev m x=some (.int kk i)) (hy: ev m y=some (.int kk j)) (hd: Nat.blt d N=true) (k: ∀ a',Has D a' N ((d,.bool (decide (j<=i)))::m)->K a' w) :
  Oper.wp P ⟨some d,.binOp .geq tx x y ty',ty,pos,aft,g⟩ a w K Q:=
 aM (by simp [execOp,ha.ev hx,ha.ev hy,eqGuard,binOp,Op.intCmp]) ha hd k
theorem o_addw (ha: Has D a N m) (hx: ev m x=some (.int kk i)) (hy: ev m y=some (.int kk j)) (hd: Nat.blt d N=true) (k: ∀ a',Has D a' N ((d,.int kk (kk.wrap (i+j)))::m)->K a' w) :
  Oper.wp P ⟨some d,.binOp .add tx x y ty',ty,pos,aft,g⟩ a w K Q:=
 aM (by simp [execOp,ha.ev hx,ha.ev hy,eqGuard,binOp,Op.intArith]) ha hd k
theorem o_subw (ha: Has D a N m) (hx: ev m x=some (.int kk i)) (hy: ev m y=some (.int kk j)) (hd: Nat.blt d N=true) (k: ∀ a',Has D a' N ((d,.int kk (kk.wrap (i - j)))::m)->K a' w) :
  Oper.wp P ⟨some d,.binOp .sub tx x y ty',ty,pos,aft,g⟩ a w K Q:=
 aM (by simp [execOp,ha.ev hx,ha.ev hy,eqGuard,binOp,Op.intArith]) ha hd k
theorem wrap_in {i: Int} (h: -9223372036854775808<=i/\i<=9223372036854775807): IntKind.i64.wrap i=i:=by
 rw [IntKind.wrap_i64];omega
theorem aF (ha: Has D a N m) (hx: ev m x=some (.int .i64 i)) (hy: ev m y=some (.int .i64 j)) (hd: Nat.blt d N=true) (hb: -9223372036854775808<=i+j/\i+j<=9223372036854775807) (k: ∀ a',Has D a' N ((d,.int .i64 (i+j))::m)->K a' w) :
  Oper.wp P ⟨some d,.binOp .add tx x y ty',ty,pos,aft,g⟩ a w K Q:=
 o_addw ha hx hy hd (fun a' h=>k a' (by rw [wrap_in hb] at h;exact h))
theorem cK (ha: Has D a N m) (hx: ev m x=some (.int .i64 i)) (hy: ev m y=some (.int .i64 j)) (hd: Nat.blt d N=true) (hb: -9223372036854775808<=i - j/\i - j<=9223372036854775807) (k: ∀ a',Has D a' N ((d,.int .i64 (i - j))::m)->K a' w) :
  Oper.wp P ⟨some d,.binOp .sub tx x y ty',ty,pos,aft,g⟩ a w K Q:=
 o_subw ha hx hy hd (fun a' h=>k a' (by rw [wrap_in hb] at h;exact h))
end
section
variable {x y: Operand} {s u: ByteArray} {tx ty': TypeId}
theorem eQ (s u: ByteArray):(s.toList == u.toList)=decide (s=u):=by
 rw [Bool.eq_iff_iff];simp only [beq_iff_eq,decide_eq_true_eq]
 constructor
 ·intro h;rw [ByteArray.toList_eq,ByteArray.toList_eq] at h
  cases s;cases u
  simp_all
 ·rintro rfl;rfl
theorem dG (ha: Has D a N m) (hx: ev m x=some (.string s)) (hy: ev m y=some (.string u)) (hd: Nat.blt d N=true) (k: ∀ a',Has D a' N ((d,.bool (decide (s=u)))::m)->K a' w) :
  Oper.wp P ⟨some d,.binOp .eql tx x y ty',ty,pos,aft,g⟩ a w K Q:=
 aM (by simp only [execOp,ha.ev hx,ha.ev hy,eqGuard,binOp,Op.stringOp,eQ];rfl) ha hd k
theorem o_nes (ha: Has D a N m) (hx: ev m x=some (.string s)) (hy: ev m y=some (.string u)) (hd: Nat.blt d N=true) (k: ∀ a',Has D a' N ((d,.bool (!decide (s=u)))::m)->K a' w) :
  Oper.wp P ⟨some d,.binOp .neq tx x y ty',ty,pos,aft,g⟩ a w K Q:=
 aM (by simp only [execOp,ha.ev hx,ha.ev hy,eqGuard,binOp,Op.stringOp,eQ];rfl) ha hd k
end
theorem aE {x: Operand} {p: Addr} (ha: Has D a N m) (hx: ev m x=some (.pointer (some p))) (hd: Nat.blt d N=true) (k: ∀ a',Has D a' N ((d,.pointer (some p))::m)->K a' w) :
  Oper.wp P ⟨some d,.nilCheck x,ty,pos,aft,g⟩ a w K Q:=
 aM (by simp only [execOp,ha.ev hx];rfl) ha hd k
theorem ce {fn: Fn} {first cap: Array Operand} {fs cs: Array Value} (ha: Has D a N m) (h1: first.map a.eval=fs) (h2: cap.map a.eval=cs) (hd: Nat.blt d N=true) (k: ∀ a',Has D a' N ((d,.func fn fs cs)::m)->K a' w) :
  Oper.wp P ⟨some d,.makeFunc fn first cap,ty,pos,aft,g⟩ a w K Q:=
 aM (by simp only [execOp,h1,h2,Instr.makeFunc];rfl) ha hd k
theorem ah {x: Operand} {vs: Array Value} {i: Nat} {v: Value} (ha: Has D a N m) (hx: ev m x=some (.tuple vs)) (hi: vs[i]? =some v) (hd: Nat.blt d N=true) (k: ∀ a',Has D a' N ((d,v)::m)->K a' w) :
  Oper.wp P ⟨some d,.extract x i,ty,pos,aft,g⟩ a w K Q:=
 aM (by simp [execOp,ha.ev hx,Instr.extract,hi]) ha hd k
theorem bC (b o n: Nat):(⟨b,o,none⟩: Addr).add n=⟨b,o+n,none⟩:=by unfold Addr.add;split <;> simp_all
theorem ac {x: Operand} {s ft: TypeId} {fs: Array Field} {sz bytes szf bf: Nat} {z zf: Value} {df: TypeDesc} {f: Nat} {fd: Field} {b o o2: Nat} (T: Ty P s (.struct fs) sz bytes z) (TF: Ty P ft df szf bf zf) (hf: fs[f]? =some fd) (hft: fd.type=ft) (hs: Nat.blt 0 szf=true) (ho: o+fd.offset=o2)
  (ha: Has D a N m) (hx: ev m x=some (.pointer (some ⟨b,o,none⟩))) (hd: Nat.blt d N=true) (k: ∀ a',Has D a' N ((d,.pointer (some ⟨b,o2,none⟩))::m)->K a' w) :
  Oper.wp P ⟨some d,.fieldAddr s x f,ty,pos,aft,g⟩ a w K Q:=by
 subst hft ho;have hs': ¬ szf=0:=by
  have:=Nat.le_of_ble_eq_true hs;omega
 exact aM (by simp [execOp,ha.ev hx,Instr.fieldAt,T.run_und,hf,Instr.sureAddr,fieldPlace,TF.run_sizeOf,hs',bC]) ha hd k
theorem ae {x: Operand} {t e: TypeId} {dd: TypeDesc} {sz bytes: Nat} {z v: Value} {b o: Nat} {cs: Array Value} {fz: Nat × Nat} (T: Ty P t dd sz bytes z) (hfl: TypeDesc.flat dd=true)
  (ha: Has D a N m) (hx: ev m x=some (.pointer (some ⟨b,o,none⟩))) (hb: w.heap[b]? =some (.cells cs e fz)) (hv: cs[o]? =some v) (hd: Nat.blt d N=true) (k: ∀ a',Has D a' N ((d,v)::m)->K a' w) :
  Oper.wp P ⟨some d,.load t x,ty,pos,aft,g⟩ a w K Q:=by
 have hc: w.cell? ⟨b,o,none⟩ =some v:=by simp [World.cell?,hb,hv]
 refine aM ?_ ha hd k;have hagg:(isAgg t).run P w=.ok false w:=by
  unfold isAgg;simp only [Sem.run_bind,T.run_und,Result.andThen_ok]
  cases dd <;> first | rfl |(simp [TypeDesc.flat] at hfl)
 simp [execOp,ha.ev hx,Instr.loadAt,Instr.sureAddr,loadVar,hagg,hc]
theorem am {x: Operand} {t e: TypeId} {dd: TypeDesc} {sz bytes: Nat} {z: Value} {b o: Nat} {cs: Array Value} {fz: Nat × Nat} {vs: List Value} (T: Ty P t dd sz bytes z) (hfl: TypeDesc.flat dd=false)
  (ha: Has D a N m) (hx: ev m x=some (.pointer (some ⟨b,o,none⟩))) (hb: w.heap[b]? =some (.cells cs e fz)) (hlen: vs.length=sz) (hv: ∀ j u,vs[j]? =some u->cs[o+j]? =some u) (hd: Nat.blt d N=true) (k: ∀ a',Has D a' N ((d,.agg vs.toArray)::m)->K a' w) :
  Oper.wp P ⟨some d,.load t x,ty,pos,aft,g⟩ a w K Q:=by
 subst hlen;refine aM ?_ ha hd k;have hagg:(isAgg t).run P w=.ok true w:=by
  unfold isAgg;simp only [Sem.run_bind,T.run_und,Result.andThen_ok]
  cases dd <;> first | rfl |(simp [TypeDesc.flat] at hfl)
 have hl:=run_loadCells_list (P:=P) w ⟨b,o,none⟩ vs (fun j u hj=>by rw [bC];simp [World.cell?,hb,hv j u hj]);simp [execOp,ha.ev hx,Instr.loadAt,Instr.sureAddr,loadVar,hagg,T.run_sizeOf,hl]
theorem setRow_same (w: World) (b: Nat) (cs: Array Value):(w.setRow b cs).os=w.os/\(w.setRow b cs).tape=w.tape/\(w.setRow b cs).output=w.output/\(w.setRow b cs).heap.size=w.heap.size/\∀ k,k≠b->(w.setRow b cs).heap[k]? =w.heap[k]?:=by
 refine⟨rfl,rfl,rfl,by simp [World.setRow],fun k hk=>?_⟩;simp only [World.setRow,Array.getElem?_modify];rw [if_neg j0]
theorem Step.setRow (h: Step w0 H0 L0 w H L) (i: Nat) {b e: Nat} {cs: Array Value} (hi: L[i]? =some (some b,.cells cs e (0,0))) (cs': Array Value): Step w0 H0 L0 (w.setRow b cs') H (L.set i (some b,.cells cs' e (0,0))):=by
 obtain⟨h1,h2,h3,h4,h5⟩:=setRow_same w b cs';exact h.write i hi _ h1 h2 h3 h4 (setRow_heap w b cs cs' e (0,0) (h.inv.at_ i hi)) h5
theorem al {x y: Operand} {t e: TypeId} {dd: TypeDesc} {sz bytes: Nat} {z v: Value} {b o i: Nat} {cs cs': Array Value} (T: Ty P t dd sz bytes z) (hS: Step w0 H0 L0 w H L) (hi: L[i]? =some (some b,.cells cs e (0,0)))
  (ha: Has D a N m) (hx: ev m x=some (.pointer (some ⟨b,o,none⟩))) (hy: ev m y=some v) (hsz: v.cells.size=sz) (h1:(v.cells.toList.all fun u=>u.oneCell')=true) (hcs: cs.toList.take o++v.cells.toList++cs.toList.drop (o+v.cells.size)=cs'.toList) (hle: Nat.ble (o+v.cells.size) cs.size=true)
  (k: ∀ a' w',Step w0 H0 L0 w' H (L.set i (some b,.cells cs' e (0,0)))->Has D a' N m->K a' w') :
  Oper.wp P ⟨none,.store t x y,ty,pos,aft,g⟩ a w K Q:=by
 have hrun:=run_storeCells_at (P:=P) b o e v.cells.toList 0 cs w (hS.inv.at_ i hi) (by have:=Nat.le_of_ble_eq_true hle;simpa using this) (fun u hu=>List.all_eq_true.1 h1 u hu);simp only [Nat.add_zero,Array.length_toList,hcs,Array.toArray_toList] at hrun;have hr:(execOp a.eval ⟨none,.store t x y,ty,pos,aft,g⟩).run P w=.ok .skip (w.setRow b cs'):=by
  simp [execOp,ha.ev hx,ha.ev hy,Instr.storeAt,Instr.sureAddr,storeVar,T.run_sizeOf,hsz,hrun]
 unfold Oper.wp;rw [hr];exact k _ _ (hS.setRow i hi cs') (ha.put_none undef)
theorem aG {x: Operand} {t: TypeId} {v: Value} {cs: Array Value} (hS: Step w0 H0 L0 w H L) (ha: Has D a N m) (hx: ev m x=some v) (hc: v.cells=cs) (hd: Nat.blt d N=true)
  (k: ∀ b a' w',Step w0 H0 L0 w' H ((some b,.cells cs t (0,0))::L)->Has D a' N ((d,.pointer (some ⟨b,0,none⟩))::m)->K a' w') :
  Oper.wp P ⟨some d,.box t x,ty,pos,aft,g⟩ a w K Q:=by
 subst hc;exact aM (w':=w.alloc (.cells v.cells t (0,0))) (by simp [execOp,ha.ev hx,Instr.box,newVar,newRow,newObj,Sem.run]) ha hd (fun a' h=>k _ a' _ (hS.alloc _) h)
theorem aB {t: TypeId} {dd: TypeDesc} {sz bytes: Nat} {z: Value} {cs: Array Value} (T: Ty P t dd sz bytes z) (hS: Step w0 H0 L0 w H L) (ha: Has D a N m) (hc: z.cells=cs) (hd: Nat.blt d N=true)
  (k: ∀ b a' w',Step w0 H0 L0 w' H ((some b,.cells cs t (0,0))::L)->Has D a' N ((d,.pointer (some ⟨b,0,none⟩))::m)->K a' w') :
  Oper.wp P ⟨some d,.alloc t,ty,pos,aft,g⟩ a w K Q:=by
 subst hc;exact aM (w':=w.alloc (.cells z.cells t (0,0))) (by simp [execOp,Instr.alloc,T.run_zero,newVar,newRow,newObj,Sem.run]) ha hd (fun a' h=>k _ a' _ (hS.alloc _) h)
theorem aI {x: Operand} {t e: TypeId} {A: Option Addr} {n c: Nat} (ht: P.underlying t=some (.slice e)) (ha: Has D a N m) (hx: ev m x=some (.slice A n c)) (hd: Nat.blt d N=true) (k: ∀ a',Has D a' N ((d,.int .i64 (n: Int))::m)->K a' w) :
  Oper.wp P ⟨some d,.call { callee:=.builtin .len,args:= #[x],argTypes:= #[t] },ty,pos,aft,g⟩ a w K Q:=
 aM (by simp [execOp,resolve,invoke,builtin,Builtin.len_,ha.ev hx,run_underlying ht,goInt]) ha hd k
theorem cy {x: Operand} {t: TypeId} {s: ByteArray} (ht: P.underlying t=some .string) (ha: Has D a N m) (hx: ev m x=some (.string s)) (hd: Nat.blt d N=true) (k: ∀ a',Has D a' N ((d,.int .i64 (s.size: Int))::m)->K a' w) :
  Oper.wp P ⟨some d,.call { callee:=.builtin .len,args:= #[x],argTypes:= #[t] },ty,pos,aft,g⟩ a w K Q:=
 aM (by simp [execOp,resolve,invoke,builtin,Builtin.len_,ha.ev hx,run_underlying ht,goInt]) ha hd k
theorem o_index {x y: Operand} {t e: TypeId} {dd: TypeDesc} {sz bytes: Nat} {z: Value} {b o n c j: Nat} {i: Int} (ht: P.underlying t=some (.slice e)) (T: Ty P e dd sz bytes z) (ha: Has D a N m) (hx: ev m x=some (.slice (some ⟨b,o,none⟩) n c)) (hy: ev m y=some (.int .i64 i)) (hij: i=(j: Int)) (hj: j < n) (hd: Nat.blt d N=true)
  (k: ∀ a',Has D a' N ((d,.pointer (some ⟨b,o+j * sz,none⟩))::m)->K a' w) :
  Oper.wp P ⟨some d,.indexAddr t x y,ty,pos,aft,g⟩ a w K Q:=by
 subst hij;exact aM (by simp [execOp,ha.ev hx,ha.ev hy,Instr.indexAt,asIntOf,run_underlying ht,hj,T.run_sizeOf,bC]) ha hd k
theorem aC {fn: FuncId} {f: Func} {c: Code} {xs: Array Operand} {ts: Array TypeId} {vs: Array Value} {R: Ending→World→Prop} (hf: P.funcs[fn]? =some f) (hb: f.body=some c) (hn:(f.name == "runtime.NumGoroutine")=false) (hvs: xs.map a.eval=vs)
  (ha: Has D a N m) (hd: Nat.blt d N=true) (hc: Calls P fn vs w R) (k: ∀ e w',R e w'→∃ v,e=.returned v∧∀ a',Has D a' N ((d,v)::m)→K a' w') :
  Oper.wp P ⟨some d,.call { callee:=.value (.func fn),args:=xs,argTypes:=ts },ty,pos,aft,g⟩ a w K Q:=by
 have hr:(execOp a.eval ⟨some d,.call { callee:=.value (.func fn),args:=xs,argTypes:=ts },ty,pos,aft,g⟩).run P w=.ok (.enter fn vs) w:=by
  have h1: a.eval (.func fn)=.func (.func fn) #[] #[]:=rfl;have h2:(f.name= "runtime.NumGoroutine")=False:=by simpa using hn
  simp [execOp,resolve,h1,Deferred.ofValue,invoke,callFunc,hf,h2,hb,hvs]
 unfold Oper.wp;rw [hr];refine Calls.mono hc fun e w' hR=>?_;obtain⟨v,rfl,hk⟩:=k e w' hR;exact hk _ (ha.put hd v)
theorem a8 {t fn: Nat} {f: Func} {c: Code} {xs: Array Operand} {ts: Array TypeId} {vs cap: Array Value} {R: Ending→World→Prop} (hf: P.funcs[fn]? =some f) (hb: f.body=some c) (hn:(f.name == "runtime.NumGoroutine")=false) (hvs: xs.map a.eval=vs)
  (ha: Has D a N m) (hx: ev m (.tmp t)=some (.func (.func fn) #[] cap)) (hd: Nat.blt d N=true) (hc: Calls P fn (vs++cap) w R) (k: ∀ e w',R e w'→∃ v,e=.returned v∧∀ a',Has D a' N ((d,v)::m)→K a' w') :
  Oper.wp P ⟨some d,.call { callee:=.value (.tmp t),args:=xs,argTypes:=ts },ty,pos,aft,g⟩ a w K Q:=by
 have hr:(execOp a.eval ⟨some d,.call { callee:=.value (.tmp t),args:=xs,argTypes:=ts },ty,pos,aft,g⟩).run P w=.ok (.enter fn (vs++cap)) w:=by
  have h2:(f.name= "runtime.NumGoroutine")=False:=by simpa using hn
  simp [execOp,resolve,ha.ev hx,Deferred.ofValue,invoke,callFunc,hf,h2,hb,hvs]
 unfold Oper.wp;rw [hr];refine Calls.mono hc fun e w' hR=>?_;obtain⟨v,rfl,hk⟩:=k e w' hR;exact hk _ (ha.put hd v)
end
section
variable {P: Program} {Q: Exit->Act->World->Prop} {D: List Deferred} {a: Act} {w: World} {N: Nat} {m: Env} {ops: Array Oper} {rest: List Oper} {o: Oper}
theorem lin (hg: o.guard=none) (h: o.wp P a w (wpList P ops Q rest) Q): wpList P ops Q (o::rest) a w:=wpList_plain hg (fun K hK=>Oper.wp_mono hK h)
theorem eg {ops: Array Oper} {g: Nat} {og: Oper} {t: Nat} {b: Bool} (ha: Has D a N m) (ho: ops[g]? =some og) (hd: og.dst=some t) (hv: lk m t=some (.bool b)): yielded ops a.tmps g=some b:=by
 have:=ha.get t _ hv;simp [yielded,ho,hd,this]
theorem ad {g t: Nat} {og: Oper} {b: Bool} (hg: o.guard=some (g,b)) (ha: Has D a N m) (ho: ops[g]? =some og) (hd: og.dst=some t) (hv: lk m t=some (.bool b)) (h: o.wp P a w (wpList P ops Q rest) Q): wpList P ops Q (o::rest) a w:=by
 refine wpList_step fun K hK=>?_;have hy:=eg ha ho hd hv;rw [if_pos (by simp [Region.wanted,hg,hy])];exact Oper.wp_mono hK h
theorem lin_skip {dst: Option Nat} (hw: Region.wanted o (yielded ops a.tmps)=false) (hdst: o.dst=dst) (h: ∀ K: Act->World->Prop,(∀ a w,wpList P ops Q rest a w->K a w)->K (a.put dst undef) w): wpList P ops Q (o::rest) a w:=by
 refine wpList_step fun K hK=>?_;rw [if_neg (by rw [hw];simp),hdst];exact h K hK
theorem lin_off {g t d: Nat} {og: Oper} {b b': Bool} (hg: o.guard=some (g,b)) (hne:(b' == b)=false) (hdst: o.dst=some d) (hd: Nat.blt d N=true) (ha: Has D a N m) (ho: ops[g]? =some og) (hod: og.dst=some t) (hv: lk m t=some (.bool b')) (h: ∀ a',Has D a' N ((d,undef)::m)->wpList P ops Q rest a' w): wpList P ops Q (o::rest) a w:=
 lin_skip (by simp only [Region.wanted,hg,eg ha ho hod hv];simpa using hne) hdst fun K hK=>hK _ _ (h _ (ha.put hd undef))
theorem yield_undef {ops: Array Oper} {g: Nat} {og: Oper} {t: Nat} (ha: Has D a N m) (ho: ops[g]? =some og) (hd: og.dst=some t) (hv: lk m t=some undef): yielded ops a.tmps g=none:=by
 have:=ha.get t _ hv;simp [yielded,ho,hd,this,undef]
theorem bE {g t d: Nat} {og: Oper} {b: Bool} (hg: o.guard=some (g,b)) (hdst: o.dst=some d) (hd: Nat.blt d N=true) (ha: Has D a N m) (ho: ops[g]? =some og) (hod: og.dst=some t) (hv: lk m t=some undef) (h: ∀ a',Has D a' N ((d,undef)::m)->wpList P ops Q rest a' w): wpList P ops Q (o::rest) a w:=
 lin_skip (by simp only [Region.wanted,hg,yield_undef ha ho hod hv];rfl) hdst fun K hK=>hK _ _ (h _ (ha.put hd undef))
theorem au {G: Prop} {t: Nat} {b: Bool} (ha: Has D a N m) (hv: lk m t=some (.bool b)) (ht: b=true->Has D a N ((t,.bool true)::m)->G) (hf: b=false->Has D a N ((t,.bool false)::m)->G): G:=by
 cases b with
 | true=>exact ht J (Has.cons ha hv ha)
 | false=>exact hf J (Has.cons ha hv ha)
theorem ai {G: Prop} {t: Nat} {p: Prop} [Decidable p] (ha: Has D a N m) (hv: lk m t=some (.bool (decide p))) (ht: p->Has D a N ((t,.bool true)::m)->G) (hf: ¬ p->Has D a N ((t,.bool false)::m)->G): G:=by
 by_cases hp: p
 ·exact ht hp (Has.cons ha (by rw [hv];simp [hp]) ha)
 ·exact hf hp (Has.cons ha (by rw [hv];simp [hp]) ha)
theorem aP {G: Prop} {t: Nat} {p: Prop} [Decidable p] (ha: Has D a N m) (hv: lk m t=some (.bool (!decide p))) (ht: ¬ p->Has D a N ((t,.bool true)::m)->G) (hf: p->Has D a N ((t,.bool false)::m)->G): G:=by
 by_cases hp: p
 ·exact hf hp (Has.cons ha (by rw [hv];simp [hp]) ha)
 ·exact ht hp (Has.cons ha (by rw [hv];simp [hp]) ha)
theorem ao {c: Operand} {x y: Code} (ha: Has D a N m) (hc: ev m c=some (.bool true)) (h: x.wp P Q a w):(Code.cond c x y).wp P Q a w:=wp_cond_true (ha.ev hc) h
theorem ag {c: Operand} {x y: Code} (ha: Has D a N m) (hc: ev m c=some (.bool false)) (h: y.wp P Q a w):(Code.cond c x y).wp P Q a w:=wp_cond_false (ha.ev hc) h
theorem ab {id: Nat} {l: List Oper} (h: wpList P l.toArray Q l a w):(Code.region id l.toArray false).wp P Q a w:=wp_region_lit h
theorem bH {id: Nat} {l: List Oper} {E: Env} (k: ∀ a',Has D a' N E->Q .normal a' w) (h: wpList P l.toArray (fun e a' w'=>e=.normal/\w'=w/\Has D a' N E) l a w):(Code.region id l.toArray false).wp P Q a w:=
 Code.wp_mono (fun e a' w' ⟨he,hw,hh⟩=>by subst he hw;exact k a' hh) (wp_region_lit h)
theorem aL {c: Code} (I: Nat->Act->World->Prop) (n0: Nat) (h0: I n0 a w) (round: ∀ n a w,I n a w->c.wp P (Exit.then (fun a' w'=> ∃ n',n' < n/\I n' a' w') Q) a w):(Code.loop c).wp P Q a w:=wp_loop_ghost I n0 h0 round
theorem enter {f: FuncId} {fn: Func} {c: Code} {R: Ending->World->Prop} (vs: List Value) (hf: P.funcs[f]? =some fn) (hb: fn.body=some c) (hN: fn.ntmps=N) (hle: Nat.ble vs.length N=true) (k: ∀ a,Has [] a N (args 0 vs)->c.wp P (bodyPost P fn R) a w): Calls P f vs.toArray w R:=by
 refine calls_of_wp hf hb (k _ ⟨?_,rfl,fun j v h=>?_⟩)
 ·have:=Nat.le_of_ble_eq_true hle;simp [hN];omega
 ·obtain⟨_,h2⟩:=fM vs 0 j v h;rw [Nat.sub_zero] at h2;have hj: j < vs.length:=(List.getElem?_eq_some_iff.1 h2).1;rw [Array.getElem?_append_left (by simpa using hj)];simpa using h2
theorem ret1 {fn: Func} {t: Nat} {v: Value} {R: Ending->World->Prop} (hr: fn.results= #[.tmp t]) (ha: Has [] a N m) (hv: lk m t=some v) (hR: R (.returned v) w): bodyPost P fn R .ret a w:=
 bodyPost_ret (by rw [results_tmp hr];have:=ha.get t v hv;simp [Array.getD_eq_getD_getElem?,this]) ha.dfr hR
theorem ret2 {fn: Func} {t u: Nat} {v v': Value} {R: Ending->World->Prop} (hr: fn.results= #[.tmp t,.tmp u]) (ha: Has [] a N m) (hv: lk m t=some v) (hv': lk m u=some v') (hR: R (.returned (.tuple #[v,v'])) w): bodyPost P fn R .ret a w:=
 bodyPost_ret (by rw [results_tmp2 hr];have h1:=ha.get t v hv;have h2:=ha.get u v' hv';simp [Array.getD_eq_getD_getElem?,h1,h2]) ha.dfr hR
theorem ret0 {fn: Func} {R: Ending->World->Prop} (hr: fn.results= #[]) (ha: Has [] a N m) (hR: R (.returned (.tuple #[])) w): bodyPost P fn R .normal a w:=
 bodyPost_end (results_none hr _ _ _) ha.dfr hR
end
end Go.Vk
namespace Go.Vk
open Go.RowKit
section
variable {P: Program} {Q: Exit->Act->World->Prop} {next: Act->World->Prop} {D: List Deferred} {a: Act} {w: World} {id id': Nat}
theorem aa (h: next a w): Exit.then next Q .normal a w:=h
theorem af (h: Q .ret a w): Exit.then next Q .ret a w:=h
theorem aw (h: Q (.exit id) a w): Exit.then next Q (.exit id) a w:=h
theorem ar (h: Q .normal a w): Exit.inBlock id Q .normal a w:=h
theorem av (h: Q .ret a w): Exit.inBlock id Q .ret a w:=h
theorem aH (h: Q .normal a w): Exit.inBlock id Q (.exit id) a w:=by
 simp only [Exit.inBlock,if_true];exact h
theorem blk_miss (hne: Nat.beq id' id=false) (h: Q (.exit id') a w): Exit.inBlock id Q (.exit id') a w:=by
 have hn: ¬ id'=id:=fun e=>by rw [e,Nat.beq_refl] at hne;cases hne
 simp only [Exit.inBlock,if_neg hn];exact h
end
def evs (m: Env): List Operand->Option (List Value)
 | []=>some []
 | x::xs=>match ev m x,evs m xs with
  | some v,some vs=>some (v::vs)
  | _,_=>none
theorem Has.evs {D: List Deferred} {a: Act} {N: Nat} {m: Env} (h: Has D a N m): ∀ {xs: List Operand} {vs: List Value},Vk.evs m xs=some vs->xs.toArray.map a.eval=vs.toArray:=by
 have key: ∀(xs: List Operand) (vs: List Value),Vk.evs m xs=some vs->xs.map a.eval=vs:=by
  intro xs
  induction xs with
  | nil =>
   intro vs e;exact Option.some.inj e
  | cons x xs ih =>
   intro vs e;simp only [Vk.evs] at e
   split at e
   ·rename_i v us h1 h2
    obtain rfl:=Option.some.inj e;rw [List.map_cons,h.ev h1,ih _ h2]
   ·cases e
 intro xs vs e;rw [List.map_toArray,key xs vs e]
inductive Tm where
 | mk (kind n: Int) (s: ByteArray) (l: List Tm)
def Tm.zero: Tm:=.mk 0 0 ⟨#[]⟩ []
instance: Inhabited Tm:=⟨Tm.zero⟩
def Tm.kind: Tm->Int | .mk k _ _ _=>k
def Tm.n: Tm->Int | .mk _ n _ _=>n
def Tm.s: Tm->ByteArray | .mk _ _ s _=>s
def Tm.l: Tm->List Tm | .mk _ _ _ l=>l
theorem Tm.eta (t: Tm): Tm.mk t.kind t.n t.s t.l=t:=by cases t;rfl
theorem Tm.ext_ {t u: Tm} (h1: t.kind=u.kind) (h2: t.n=u.n) (h3: t.s=u.s) (h4: t.l=u.l): t=u:=by
 rw [<- t.eta,<- u.eta,h1,h2,h3,h4]
mutual
def Tm.sz: Tm->Nat
 | .mk _ _ _ l=>1+Tm.szL l
def Tm.szL: List Tm->Nat
 | []=>0
 | t::ts=>t.sz+Tm.szL ts
end
theorem Tm.sz_eq (t: Tm): t.sz=1+Tm.szL t.l:=by cases t;simp [Tm.sz,Tm.l]
theorem Tm.sz_pos (t: Tm): 0 < t.sz:=by rw [Tm.sz_eq];omega
theorem Tm.szL_get: ∀ {ts: List Tm} {j: Nat} {t: Tm},ts[j]? =some t->t.sz<=Tm.szL ts
 | [],j,t,h=>by simp at h
 | u::ts,0,t,h=>by
  have: u=t:=by simpa using h
  subst this;simp [Tm.szL]
 | u::ts,j+1,t,h=>by
  have:=Tm.szL_get (ts:=ts) (j:=j) (by simpa using h);simp only [Tm.szL];omega
theorem Tm.sz_get {t u: Tm} {j: Nat} (h: t.l[j]? =some u): u.sz < t.sz:=by
 have:=Tm.szL_get h;rw [t.sz_eq];omega
theorem Tm.ind {p: Tm->Prop} (h: ∀ t: Tm,(∀(j: Nat) (u: Tm),t.l[j]? =some u->p u)->p t) (t: Tm): p t:=by
 have key: ∀ k t,Tm.sz t<=k->p t:=by
  intro k
  induction k with
  | zero=>intro t ht;have:=t.sz_pos;omega
  | succ k ih =>
   intro t ht;exact h t fun j u hu=>ih u (by have:=Tm.sz_get hu;omega)
 exact key t.sz t (Nat.le_refl _)
def tcells (t: Tm) (A: Option Addr) (c: Nat): List Value:= [.int .i64 t.kind,.int .i64 t.n,.string t.s,.slice A t.l.length c]
abbrev tv (t: Tm) (A: Option Addr) (c: Nat): Value:=.agg #[.int .i64 t.kind,.int .i64 t.n,.string t.s,.slice A t.l.length c]
abbrev tA (t: Tm) (A: Option Addr) (c: Nat): Array Value:= #[.int .i64 t.kind,.int .i64 t.n,.string t.s,.slice A t.l.length c]
abbrev tL (t: Tm) (A: Option Addr) (c: Nat): List Value:= [.int .i64 t.kind,.int .i64 t.n,.string t.s,.slice A t.l.length c]
abbrev aZ: Array Value:= #[.int .i64 0,.int .i64 0,.string (⟨#[]⟩),.slice none 0 0]
abbrev lZ: List Value:= [.int .i64 0,.int .i64 0,.string (⟨#[]⟩),.slice none 0 0]
abbrev pB (b: Nat): Value:=.pointer (some ⟨b,0,none⟩)
abbrev iV (i: Int): Value:=.int .i64 i
inductive RowT (H: PHeap): Option Addr->Nat->List Tm->Prop
 | mk {A: Option Addr} {c: Nat} {ts: List Tm} (hc: ts.length<=c) (hm: ts.length * 56<=140737488355328) (b off e: Nat) (cs: Array Value) (fz: Nat × Nat)
  (h0: ts≠[]->A=some ⟨b,off,none⟩/\H b=some (.cells cs e fz)) (Af: Nat->Option Addr) (cf: Nat->Nat)
  (hel: ∀ j t,ts[j]? =some t->∀ i u,(tcells t (Af j) (cf j))[i]? =some u->cs[off+j * 4+i]? =some u)
  (hrec: ∀ j t,ts[j]? =some t->RowT H (Af j) (cf j) t.l): RowT H A c ts
theorem RowT.mono {H H': PHeap} {A: Option Addr} {c: Nat} {ts: List Tm} (h: RowT H A c ts) (hl: Le H H'): RowT H' A c ts:=by
 induction h with
 | mk hc hm b off e cs fz h0 Af cf hel hrec ih=>exact .mk hc hm b off e cs fz (fun hn=>⟨(h0 hn).1,hl _ _ (h0 hn).2⟩) Af cf hel ih
theorem RowT.len {H: PHeap} {A: Option Addr} {c: Nat} {ts: List Tm} (h: RowT H A c ts): ts.length<=c/\ts.length<=2513169434916:=by
 cases h with
 | mk hc hm=>exact ⟨hc,by omega⟩
theorem RowT.nil (H: PHeap): RowT H none 0 []:=.mk (Nat.le_refl _) j1 0 0 0 #[] (0,0) (fun h=>absurd J h) (fun _=>none) (fun _=>0) (fun j t h=>by simp at h) (fun j t h=>by simp at h)
theorem RowT.get {H: PHeap} {A: Option Addr} {c: Nat} {ts: List Tm} (h: RowT H A c ts) {j: Nat} (hj: j < ts.length) :
  ∃(t: Tm) (b off e: Nat) (cs: Array Value) (fz: Nat × Nat) (A': Option Addr) (c': Nat),ts[j]? =some t/\A=some ⟨b,off,none⟩/\H b=some (.cells cs e fz)/\(∀ i u,(tcells t A' c')[i]? =some u->cs[off+j * 4+i]? =some u)/\RowT H A' c' t.l:=by
 cases h with
 | mk hc hm b off e cs fz h0 Af cf hel hrec =>
  have hj': ts[j]? =some ts[j]:=List.getElem?_eq_getElem hj;obtain⟨h1,h2⟩:=h0 (fun e=>by rw [e] at hj;simp at hj);exact⟨ts[j],b,off,e,cs,fz,Af j,cf j,hj',h1,h2,hel j _ hj',hrec j _ hj'⟩
theorem RowT.at_ {H: PHeap} {A: Option Addr} {c: Nat} {ts: List Tm} (h: RowT H A c ts) {j: Nat} {t: Tm} (hj: ts[j]? =some t) :
  ∃(b off e: Nat) (cs: Array Value) (fz: Nat × Nat) (A': Option Addr) (c': Nat),A=some ⟨b,off,none⟩/\H b=some (.cells cs e fz)/\(∀ i u,(tcells t A' c')[i]? =some u->cs[off+j * 4+i]? =some u)/\RowT H A' c' t.l:=by
 obtain⟨t',b,off,e,cs,fz,A',c',h1,h2⟩:=h.get (List.getElem?_eq_some_iff.1 hj).1;rw [hj] at h1;obtain rfl:=Option.some.inj h1;exact⟨b,off,e,cs,fz,A',c',h2⟩
def RowV (H: PHeap) (A: Option Addr) (c: Nat) (vs: List Value): Prop:=
 vs.length<=c/\vs.length * 8<=140737488355328/\∃(b off e: Nat) (cs: Array Value) (fz: Nat × Nat),(vs≠[]->A=some ⟨b,off,none⟩/\H b=some (.cells cs e fz))/\∀ j u,vs[j]? =some u->cs[off+j]? =some u
theorem RowV.mono {H H': PHeap} {A: Option Addr} {c: Nat} {vs: List Value} (h: RowV H A c vs) (hl: Le H H'): RowV H' A c vs:=by
 obtain⟨h1,h2,b,off,e,cs,fz,h3,h4⟩:=h;exact⟨h1,h2,b,off,e,cs,fz,fun hn=>⟨(h3 hn).1,hl _ _ (h3 hn).2⟩,h4⟩
abbrev ints (xs: List Int): List Value:=xs.map (Value.int .i64)
theorem bV {xs: List Int} {j: Nat} {x: Int} (h: xs[j]? =some x):(ints xs)[j * 1+0]? =some (.int .i64 x):=by
 rw [Nat.mul_one,Nat.add_zero]
 show (List.map _ _)[j]? =_
 rw [List.getElem?_map,h];rfl
def RowI (H: PHeap) (A: Option Addr) (c: Nat) (xs: List Int): Prop:=RowV H A c (ints xs)
theorem RowI.mono {H H': PHeap} {A: Option Addr} {c: Nat} {xs: List Int} (h: RowI H A c xs) (hl: Le H H'): RowI H' A c xs:=RowV.mono h hl
theorem RowI.len {H: PHeap} {A: Option Addr} {c: Nat} {xs: List Int} (h: RowI H A c xs): xs.length<=c/\xs.length<=17592186044416:=by
 have h1:=h.1;have h2:=h.2.1;simp at h1 h2;exact⟨h1,by omega⟩
theorem RowI.get {H: PHeap} {A: Option Addr} {c: Nat} {xs: List Int} (h: RowI H A c xs) {j: Nat} (hj: j < xs.length) :
  ∃(x: Int) (b off e: Nat) (cs: Array Value) (fz: Nat × Nat),xs[j]? =some x/\A=some ⟨b,off,none⟩/\H b=some (.cells cs e fz)/\cs[off+j]? =some (.int .i64 x):=by
 obtain⟨_,_,b,off,e,cs,fz,h3,h4⟩:=h;obtain⟨h5,h6⟩:=h3 (fun e=>by simp at e;subst e;simp at hj);exact⟨xs[j],b,off,e,cs,fz,List.getElem?_eq_getElem hj,h5,h6,h4 j _ (by simp [List.getElem?_eq_getElem hj])⟩
theorem RowI.nil (H: PHeap): RowI H none 0 []:=⟨by simp,by simp,0,0,0,#[],(0,0),fun h=>absurd J h,fun j u h=>by simp at h⟩
theorem Step.blkH {w0 w: World} {H0 H: PHeap} {L0 L: List Ent} (h: Step w0 H0 L0 w H L) {b: Nat} {o: Obj} (hb: H b=some o): w.heap[b]? =some o:=(h.inv.ext b o hb).1
theorem Step.blkL {w0 w: World} {H0 H: PHeap} {L0 L: List Ent} (h: Step w0 H0 L0 w H L) (i: Nat) {b: Nat} {o: Obj} (hi: L[i]? =some (some b,o)): w.heap[b]? =some o:=h.inv.at_ i hi
theorem Inv.nil {w: World} {H: PHeap} {L: List Ent} (h: Inv w H L): Inv w H []:=
 ⟨fun e he=>(by cases he),List.Pairwise.nil,fun k o hk=>⟨(h.ext k o hk).1,cj⟩⟩
theorem aj {cs: Array Value} {o: Nat} {vs: List Value} (h:(cs.toList.drop o).take vs.length=vs): ∀ j u,vs[j]? =some u->cs[o+j]? =some u:=by
 intro j u hj;have hl: j < vs.length:=(List.getElem?_eq_some_iff.1 hj).1;rw [<- h,List.getElem?_take,if_pos hl,List.getElem?_drop] at hj;simpa using hj
section
variable {P: Program} {K: Act->World->Prop} {Q: Exit->Act->World->Prop} {D: List Deferred} {a: Act} {w: World} {N: Nat} {m: Env} {d: Nat} {ty: TypeId} {pos: String} {aft: Array Edge} {g: Option (Nat × Bool)}
theorem az {x y: Operand} {t e: TypeId} {dd: TypeDesc} {sz bytes: Nat} {z: Value} {b o n c j: Nat} {A: Option Addr} {i: Int} (ht: P.underlying t=some (.slice e)) (T: Ty P e dd sz bytes z) (hA: A=some ⟨b,o,none⟩) (ha: Has D a N m) (hx: ev m x=some (.slice A n c)) (hy: ev m y=some (.int .i64 i)) (hij: i=(j: Int)) (hj: j < n) (hd: Nat.blt d N=true)
  (k: ∀ a',Has D a' N ((d,.pointer (some ⟨b,o+j * sz,none⟩))::m)->K a' w) :
  Oper.wp P ⟨some d,.indexAddr t x y,ty,pos,aft,g⟩ a w K Q:=by
 subst hA;exact o_index ht T ha hx hy hij hj hd k
end
def Rs (w: World) (H: PHeap) (v: Value) (e: Ending) (w': World): Prop:=e=.returned v/\Step w H [] w' H []
end Go.Vk
namespace Go.Vk
open Go.RowKit
theorem Has.add {D: List Deferred} {a: Act} {N: Nat} {m: Env} {d: Nat} {v: Value} (h: Has D a N m) (hv: a.tmps[d]? =some v): Has D a N ((d,v)::m):=by
 refine⟨h.size,h.dfr,fun k u e=>?_⟩;simp only [lk] at e
 cases hb: Nat.beq d k with
 | true =>
  rw [hb] at e;simp only [cond_true] at e;rw [<- Nat.eq_of_beq_eq_true hb,<- Option.some.inj e];exact hv
 | false =>
  rw [hb] at e;exact h.get k u e
theorem gu {P: Program} {o: Oper} {a: Act} {w: World} {K: Act->World->Prop} {Q: Exit->Act->World->Prop} (h: Oper.wp P o a w K Q) :
  Oper.wp P o a w (fun a' w'=>K a' w'/\∃ v,a'.tmps=(a.put o.dst v).tmps) Q:=by
 unfold Oper.wp at *
 generalize (execOp a.eval o).run P w=r at *
 cases r with
 | ok n w' =>
  cases n <;> simp only [Oper.upon] at h ⊢ <;>
   first
    | exact h
    | exact⟨h,_,rfl⟩
    | exact⟨h,undef,by cases o.dst <;> rfl⟩
    | exact Calls.mono h (fun e w'' he=>by cases e <;> first | exact⟨he,_,rfl⟩ | exact he)
    | exact Rows.mono h (fun _ _ he=>⟨he,_,rfl⟩)
 | halt x w'=>cases x <;> simp only [Oper.upon] at h ⊢ <;> exact h
abbrev Fact:=PHeap->Value->Prop
section
variable {P: Program} {Q: Exit->Act->World->Prop} {D: List Deferred} {N: Nat} {E: Env} {w0: World} {H0 H: PHeap} {L0 L: List Ent} {Rl: PHeap->PHeap->Prop}
structure Rel (Rl: PHeap->PHeap->Prop): Prop where
 refl: ∀ H,Rl H H
 trans: ∀ {H H' H''},Rl H H'->Rl H' H''->Rl H H''
theorem rel_le: Rel Le:=⟨Le.refl,Le.trans⟩
theorem ba: Rel (Eq: PHeap->PHeap->Prop):=⟨fun _=>rfl,Eq.trans⟩
structure Dep (l: List Oper) (Φ: List Fact) (o: Oper) (a: Act) (H: PHeap): Prop where
 get: ∀(j: Nat),(o.after.toList.any fun e=>Region.binds .any e&&Nat.beq e.on j)=true->∀(oj: Oper),l[j]? =some oj->∀(d: Nat),oj.dst=some d->∀(φ: Fact),Φ[j]? =some φ->∃ v,a.tmps[d]? =some v/\φ H v
def Quiet (Rl: PHeap->PHeap->Prop) (P: Program) (l: List Oper) (Φ: List Fact) (D: List Deferred) (N: Nat) (E: Env) (w0: World) (H0: PHeap) (L0: List Ent) (H: PHeap) (L: List Ent) (Q: Exit->Act->World->Prop) (o: Oper) (φ: Fact): Prop:=
 ∀ a w H',Rl H H'->Step w0 H0 L0 w H' L->Has D a N E->Dep l Φ o a H'->
  if Region.wanted o (yielded l.toArray a.tmps) then Oper.wp P o a w (fun a' w'=> ∃ H'' v,Rl H' H''/\Step w0 H0 L0 w' H'' L/\(∀ d,o.dst=some d->a'.tmps[d]? =some v/\φ H'' v)/\a'.defers=D) Q
  else ∀ d,o.dst=some d->φ H' undef
inductive Quiets (C: Oper->Fact->Prop): List Oper->List Fact->Prop
 | nil: Quiets C [] []
 | cons {o: Oper} {φ: Fact} {l: List Oper} {Φ: List Fact} (h: C o φ) (hs: Quiets C l Φ): Quiets C (o::l) (φ::Φ)
theorem Quiets.get {C: Oper->Fact->Prop} {l: List Oper} {Φ: List Fact} (h: Quiets C l Φ): ∀(i: Nat) (o: Oper),l[i]? =some o->∃ φ,Φ[i]? =some φ/\C o φ:=by
 induction h with
 | nil=>intro i o h;simp at h
 | cons hc hs ih =>
  intro i o hi
  cases i with
  | zero =>
   obtain rfl: _=o:=by simpa using hi
   exact⟨_,rfl,hc⟩
  | succ i =>
   obtain⟨φ,h1,h2⟩:=ih i o (by simpa using hi);exact⟨φ,by simpa using h1,h2⟩
def passD (l: List Oper) (b: List Bool): List Bool:=(List.range l.length).map fun i=>match l[i]? with
 | some o=>o.after.toList.all (fun e=>!Region.binds .any e||b.getD e.on false)
 | none=>false
def passN (l: List Oper): Nat->List Bool
 | 0=> []
 | k+1=>passD l (passN l k)
def backB (l: List Oper): Bool:=(List.range l.length).all fun i=>match l[i]? with
 | some o=>o.after.toList.all (fun e=>!Region.binds .any e||Nat.blt e.on i)
 | none=>true
def acyB (l: List Oper): Bool:=backB l||((List.range l.length).all fun i=>(passN l l.length).getD i false)
theorem acyB_ok {l: List Oper} (h: acyB l=true) (b: Nat->Bool) (hb: ∀(i: Nat) (o: Oper),l[i]? =some o->(∀ e ∈ o.after,Region.binds .any e=true->b e.on=true)->b i=true): ∀ i,i < l.length->b i=true:=by
 unfold acyB at h
 rcases (Bool.or_eq_true _ _).mp h with h | h
 ·intro i
  induction i using Nat.strongRecOn with
  | _ i ih =>
   intro hi;refine hb i l[i] (List.getElem?_eq_getElem hi) fun e he hbn=>?_;have h1:=List.all_eq_true.1 h i (List.mem_range.2 hi);rw [List.getElem?_eq_getElem hi] at h1;have h2:=List.all_eq_true.1 h1 e (Array.mem_toList_iff.2 he);rw [hbn] at h2;simp only [Bool.not_true,Bool.false_or] at h2;have h3: e.on < i:=Nat.le_of_ble_eq_true h2;exact ih e.on h3 j0
 ·have key: ∀(k i: Nat),(passN l k).getD i false=true->b i=true:=by
   intro k
   induction k with
   | zero=>intro i hi;simp [passN] at hi
   | succ k ih =>
    intro i hi;rw [passN,passD,List.getD_eq_getElem?_getD,List.getElem?_map] at hi
    by_cases hl: i < l.length
    ·rw [List.getElem?_range hl,Option.map_some,Option.getD_some,List.getElem?_eq_getElem hl] at hi;refine hb i l[i] (List.getElem?_eq_getElem hl) fun e he hbn=>ih e.on ?_;have h2:=List.all_eq_true.1 hi e (Array.mem_toList_iff.2 he);rw [hbn] at h2;simpa using h2
    ·rw [List.getElem?_eq_none (by simpa using Nat.le_of_not_lt hl)] at hi
     cases hi
  exact fun i hi=>key _ i (List.all_eq_true.1 h i (List.mem_range.2 hi))
def okDraw (l: List Oper) (N: Nat) (E: Env): Bool:=
 acyB l&&((List.range l.length).all fun i=>match l[i]? with
  | some o=>(match o.dst with
   | some d=>Nat.blt d N&&(E.all fun p=>!Nat.beq p.1 d)&&(List.range l.length).all fun j=>Nat.beq i j||(match l[j]? with
    | some oj=>(match oj.dst with
     | some d'=>!Nat.beq d d'
     | none=>true)
    | none=>true)
   | none=>true)
  | none=>true)
structure Okd (l: List Oper) (N: Nat) (E: Env): Prop where
 acy: ∀(b: Nat->Bool),(∀(i: Nat) (o: Oper),l[i]? =some o->(∀ e ∈ o.after,Region.binds .any e=true->b e.on=true)->b i=true)->∀ i,i < l.length->b i=true
 lt: ∀(i: Nat) (o: Oper) (d: Nat),l[i]? =some o->o.dst=some d->d < N
 env: ∀(i: Nat) (o: Oper) (d: Nat),l[i]? =some o->o.dst=some d->∀ p ∈ E,p.1≠d
 dst: ∀(i j: Nat) (o oj: Oper) (d: Nat),l[i]? =some o->l[j]? =some oj->o.dst=some d->oj.dst=some d->i=j
theorem nbeq {a b: Nat} (h:(!Nat.beq a b)=true): a≠b:=by
 rintro rfl;rw [Nat.beq_refl] at h
 cases h
theorem cH {l: List Oper} {N: Nat} {E: Env} (h: okDraw l N E=true): Okd l N E:=by
 unfold okDraw at h;rw [Bool.and_eq_true] at h;have key: ∀(i: Nat) (o: Oper),l[i]? =some o->∀ d,o.dst=some d->Nat.blt d N=true/\(E.all fun p=>!Nat.beq p.1 d)=true/\∀(j: Nat) (oj: Oper),l[j]? =some oj->oj.dst=some d->i=j:=by
  intro i o hi d hd;have hl: i < l.length:=(List.getElem?_eq_some_iff.1 hi).1;have h2:=List.all_eq_true.1 h.2 i (List.mem_range.2 hl);rw [hi] at h2;simp only [hd,Bool.and_eq_true] at h2;refine⟨h2.1.1,h2.1.2,fun j oj hj hdj=>?_⟩;have hlj: j < l.length:=(List.getElem?_eq_some_iff.1 hj).1;have h3:=List.all_eq_true.1 h2.2 j (List.mem_range.2 hlj);rw [hj] at h3;simp only [Bool.or_eq_true,hdj,Nat.beq_refl] at h3
  rcases h3 with h3 | h3
  ·exact Nat.eq_of_beq_eq_true h3
  ·cases h3
 refine⟨acyB_ok h.1,fun i o d hi hd=>Nat.le_of_ble_eq_true (key i o hi d hd).1,fun i o d hi hd p hp=>?_,fun i j o oj d hi hj hd hdj=>(key i o hi d hd).2.2 j oj hj hdj⟩;have h1:=List.all_eq_true.1 (key i o hi d hd).2.1 p hp;exact nbeq h1
structure DInv (Rl: PHeap->PHeap->Prop) (l: List Oper) (Φ: List Fact) (D: List Deferred) (N: Nat) (E: Env) (w0: World) (H0: PHeap) (L0: List Ent) (H: PHeap) (L: List Ent) (b: Nat->Bool) (a: Act) (w: World): Prop where
 has: Has D a N E
 st: ∃ H',Rl H H'/\Step w0 H0 L0 w H' L/\∀(i: Nat) (o: Oper) (d: Nat) (φ: Fact),b i=true->l[i]? =some o->o.dst=some d->Φ[i]? =some φ->∃ v,a.tmps[d]? =some v/\φ H' v
def Monos (Rl: PHeap->PHeap->Prop) (Φ: List Fact): Prop:= ∀ φ,φ ∈ Φ->∀ H H' v,Rl H H'->φ H v->φ H' v
theorem Monos.nil: Monos Rl []:=fun φ h=>by cases h
theorem Monos.cons {φ: Fact} {Φ: List Fact} (h: ∀ H H' v,Rl H H'->φ H v->φ H' v) (hs: Monos Rl Φ): Monos Rl (φ::Φ):=fun ψ hψ=>by
 rcases List.mem_cons.1 hψ with rfl | hψ
 ·exact h
 ·exact hs ψ hψ
theorem gl: ∀ {E: Env} {k: Nat} {v: Value},lk E k=some v->∃ p,p ∈ E/\p.1=k
 | [],_,_,h=>by cases h
 |(q,u)::E,k,v,h=>by
  simp only [lk] at h
  cases hb: Nat.beq q k with
  | true=>exact ⟨(q,u),List.mem_cons_self,Nat.eq_of_beq_eq_true hb⟩
  | false =>
   rw [hb] at h;obtain⟨p,hp,he⟩:=gl (E:=E) h;exact⟨p,List.mem_cons_of_mem _ hp,he⟩
theorem cD (hRl: Rel Rl) {l: List Oper} {Φ: List Fact} (hok: Okd l N E) (hm: Monos Rl Φ) {i: Nat} {o: Oper} {φ: Fact} (hi: l[i]? =some o) (hφ: Φ[i]? =some φ) (hq: Quiet Rl P l Φ D N E w0 H0 L0 H L Q o φ) {b: Nat->Bool} {a: Act} {w: World}
  (hI: DInv Rl l Φ D N E w0 H0 L0 H L b a w) (hd: ∀ e ∈ o.after,Region.binds .any e=true->b e.on=true) {K: Act->World->Prop} (hK: ∀ a' w',DInv Rl l Φ D N E w0 H0 L0 H L (fun j=>bif Nat.beq j i then true else b j) a' w'->K a' w') :
  wpOp P l.toArray Q i K a w:=by
 have hget: l.toArray[i]? =some o:=by simpa using hi
 obtain⟨ha,H1,hle,hS,hf⟩:=hI;have hdep: Dep l Φ o a H1:=⟨fun j hj oj hoj d hdj ψ hψ=>by
  obtain⟨e,he,hej⟩:=List.any_eq_true.1 hj;have he:=Array.mem_toList_iff.1 he;simp only [Bool.and_eq_true] at hej;have: b j=true:=by rw [<- Nat.eq_of_beq_eq_true hej.2];exact hd e he hej.1
  exact hf j oj d ψ this hoj hdj hψ⟩
 have h:=hq a w H1 hle hS ha hdep;have hne: ∀ d,o.dst=some d->∀ k v,lk E k=some v->k≠d:=fun d hdd k v hk=>by
  obtain⟨p,hp,he⟩:=gl hk;rw [<- he];exact hok.env i o d hi hdd p hp
 have hsame: ∀(x: Value) (k: Nat),o.dst≠some k->(a.put o.dst x).tmps[k]? =a.tmps[k]?:=by
  intro x k hk
  cases hod: o.dst with
  | none=>rfl
  | some d =>
   show (a.tmps.setIfInBounds d x)[k]? =_
   rw [Array.getElem?_setIfInBounds_ne (fun e=>hk (by rw [hod,e]))]
 have hsz: ∀ x: Value,(a.put o.dst x).tmps.size=N:=by
  intro x
  cases hod: o.dst with
  | none=>exact ha.size
  | some d=>simp [Act.put,ha.size]
 have fin: ∀ a' w' H2 (x: Value),a'.tmps=(a.put o.dst x).tmps->a'.defers=D->Rl H1 H2->Step w0 H0 L0 w' H2 L->(∀ d,o.dst=some d->∃ v,a'.tmps[d]? =some v/\φ H2 v)->
   DInv Rl l Φ D N E w0 H0 L0 H L (fun j=>bif Nat.beq j i then true else b j) a' w':=by
  intro a' w' H2 x htm hdf hle2 hS2 hv;refine⟨⟨by rw [htm];exact hsz x,hdf,fun k v hk=>?_⟩,H2,hRl.trans hle hle2,hS2,fun j oj d ψ hbj hoj hdj hψ=>?_⟩
  ·rw [htm,hsame x k (fun e=>hne k e k v hk J)];exact ha.get k v hk
  ·cases hji: Nat.beq j i with
   | true =>
    have hji':=Nat.eq_of_beq_eq_true hji;subst hji';rw [hi] at hoj;obtain rfl:=Option.some.inj hoj;rw [hφ] at hψ;obtain rfl:=Option.some.inj hψ;exact hv d hdj
   | false =>
    have hbj: b j=true:=by simpa [hji] using hbj
    obtain⟨v,h1,h2⟩:=hf j oj d ψ hbj hoj hdj hψ;refine⟨v,?_,hm ψ (List.mem_of_getElem? hψ) _ _ _ hle2 h2⟩;rw [htm,hsame x d (fun e=>by
     have:=hok.dst i j o oj d hi hoj e hdj;subst this;rw [Nat.beq_refl] at hji
     cases hji)]
    exact h1
 unfold wpOp;rw [hget];simp only
 split
 ·rename_i hw
  rw [if_pos hw] at h;refine .inl (Oper.wp_mono (fun a' w' hh=>?_) (gu h));obtain⟨⟨H2,v,hle2,hS2,hv,hdf⟩,x,htm⟩:=hh;exact hK _ _ (fin a' w' H2 x htm hdf hle2 hS2 (fun d hd=>⟨v,hv d hd⟩))
 ·rename_i hw
  rw [if_neg hw] at h;refine hK _ _ (fin _ w H1 undef J (by cases o.dst <;> exact ha.dfr) (hRl.refl _) hS (fun d hd=>⟨undef,?_,h d hd⟩));rw [hd]
  show (a.tmps.setIfInBounds d undef)[d]? =some undef
  rw [Array.getElem?_setIfInBounds_self,if_pos (by rw [ha.size];exact hok.lt i o d hi hd)]
theorem cU {α: Type} {p q: α->Bool}: ∀ {xs: List α} {x: α},(∀ y,q y=true->p y=true)->x ∈ xs->p x=true->q x=false->xs.countP q < xs.countP p
 | [],x,_,h,_,_=>by cases h
 | y::xs,x,hpq,hx,hp,hq=>by
  have hle: xs.countP q<=xs.countP p:=List.countP_mono_left (fun z _ h=>hpq z h);rw [List.countP_cons,List.countP_cons]
  rcases List.mem_cons.1 hx with rfl | hx
  ·rw [hp,hq];simp;omega
  ·have:=cU hpq hx hp hq
   cases hqy: q y with
   | true=>rw [hpq y hqy];simp;omega
   | false=>cases p y <;> simp <;> omega
def unl (n: Nat) (b: Nat->Bool): Nat:=(List.range n).countP (fun i=>!b i)
theorem fu (n: Nat) (b: Nat->Bool) {m: Nat} (h: m=n:=by simp): unl n b<=m:=by
 have:=List.countP_le_length (p:=fun i=>!b i) (l:=List.range n);unfold unl;rw [List.length_range] at this;omega
def lof (listed: Array Bool): Nat->Bool:=fun i=>listed.getD i false
def okTail (l: List Oper) (tl: Nat): Bool:=
 (List.range tl).all fun i=>(List.range (tl+1)).any fun s=>Nat.blt i s&&(match l[s]? with
  | some o=>o.after.toList.any fun e=>Region.binds .any e&&Nat.beq e.on i
  | none=>false)
def upTo (b: Nat->Bool) (i: Nat): Nat->Bool:=fun j=>bif Nat.beq j i then true else b j
theorem draw_run (hRl: Rel Rl) {l: List Oper} {Φ: List Fact} (hok: Okd l N E) (hm: Monos Rl Φ) (tl: Nat) (htl: tl=l.length\/(tl+1=l.length/\okTail l tl=true))
  (hq: ∀(i: Nat) (o: Oper),i < tl->l[i]? =some o->∃ φ,Φ[i]? =some φ/\Quiet Rl P l Φ D N E w0 H0 L0 H L Q o φ)
  (hfin: ∀ b a w,(∀ i,i < tl->b i=true)->DInv Rl l Φ D N E w0 H0 L0 H L b a w->if tl < l.length then wpOp P l.toArray Q tl (fun a w=>Q .normal a w) a w else Q .normal a w) :
  ∀(fuel: Nat) (listed: Array Bool) (a: Act) (w: World),listed.size=l.length->unl l.length (lof listed)<=fuel->(∀ s o,lof listed s=true->l[s]? =some o->∀ e ∈ o.after,Region.binds .any e=true->lof listed e.on=true)->(tl < l.length->lof listed tl=false)->
   DInv Rl l Φ D N E w0 H0 L0 H L (lof listed) a w->wpAny P .any l.toArray Q fuel listed a w:=by
 have hbind: ∀(listed: Array Bool) (i: Nat),listed.size=l.length->(i ∈ Region.ready .any l.toArray listed↔∃ o,l[i]? =some o/\lof listed i=false/\∀ e ∈ o.after,Region.binds .any e=true->lof listed e.on=true):=by
  intro listed i hsz;unfold Region.ready;rw [List.mem_filter,List.mem_range];have hg: ∀ j,j < l.length->listed.getD j true=listed.getD j false:=by
   intro j hj;have: j < listed.size:=by omega
   simp [Array.getD,this]
  constructor
  ·rintro⟨h1,h2⟩;have hil: i < l.length:=by simpa using h1
   simp only [Bool.and_eq_true,Bool.not_eq_true'] at h2;refine⟨l[i],List.getElem?_eq_getElem hil,by unfold lof;rw [<- hg i hil];exact h2.1,fun e he hb=>?_⟩;have h3:=h2.2;have hget: l.toArray[i]? =some l[i]:=by simp [hil]
   rw [hget] at h3;simp only [Option.map_some,Option.getD_some] at h3;have h4:=Array.all_eq_true_iff_forall_mem.1 h3 e he;simp only [hb,Bool.not_true,Bool.false_or] at h4;exact h4
  ·rintro⟨o,h1,h2,h3⟩;have hil: i < l.length:=(List.getElem?_eq_some_iff.1 h1).1;refine⟨by simpa using hil,?_⟩;have hget: l.toArray[i]? =some o:=by simpa using h1
   rw [hget];simp only [Option.map_some,Option.getD_some,Bool.and_eq_true,Bool.not_eq_true'];refine⟨by rw [hg i hil];exact h2,Array.all_eq_true_iff_forall_mem.2 fun e he=>?_⟩
   cases hb: Region.binds .any e with
   | false=>rfl
   | true =>
    show (!true||listed.getD e.on false)=true
    rw [show listed.getD e.on false=true from h3 e he hb];rfl
 have hall: ∀(listed: Array Bool),listed.size=l.length->Region.ready .any l.toArray listed= []->∀ i,i < l.length->lof listed i=true:=by
  intro listed hsz hr;refine hok.acy (lof listed) fun i o ho hdeps=>?_
  cases hb: lof listed i with
  | true=>rfl
  | false =>
   have: i ∈ Region.ready .any l.toArray listed:=(hbind listed i hsz).2 ⟨o,ho,hb,hdeps⟩;rw [hr] at this
   cases this
 have hset: ∀(listed: Array Bool) (i: Nat),listed.size=l.length->i < l.length->lof (listed.setIfInBounds i true)=upTo (lof listed) i:=by
  intro listed i hsz hi
  funext j
  unfold lof upTo
  cases hji: Nat.beq j i with
  | true =>
   have:=Nat.eq_of_beq_eq_true hji;subst this;have hj: j < listed.size:=by omega
   simp [Array.getD,hj]
  | false =>
   have hne: i≠j:=fun e=>by subst e;rw [Nat.beq_refl] at hji;cases hji
   simp only [cond_false];simp only [Array.getD_eq_getD_getElem?,Array.getElem?_setIfInBounds_ne hne]
 have hup: ∀(b: Nat->Bool) i j,upTo b i j=true↔j=i\/b j=true:=by
  intro b i j;unfold upTo
  cases hji: Nat.beq j i with
  | true=>have:=Nat.eq_of_beq_eq_true hji;simp [this]
  | false =>
   have hne: j≠i:=fun e=>by subst e;rw [Nat.beq_refl] at hji;cases hji
   simp [hne]
 have hless: ∀(b: Nat->Bool) i,i < l.length->b i=false->unl l.length (upTo b i) < unl l.length b:=by
  intro b i hi hb;refine cU (x:=i) (fun y hy=>?_) (List.mem_range.2 hi) (by simp [hb]) (by simp [upTo]);simp only [Bool.not_eq_true'] at hy ⊢
  cases hby: b y with
  | false=>rfl
  | true =>
   have:=(hup b i y).2 (.inr hby);rw [this] at hy
   cases hy
 have hclosed: ∀(b: Nat->Bool) i o,l[i]? =some o->(∀ e ∈ o.after,Region.binds .any e=true->b e.on=true)->(∀ s o,b s=true->l[s]? =some o->∀ e ∈ o.after,Region.binds .any e=true->b e.on=true)->
   ∀ s o,upTo b i s=true->l[s]? =some o->∀ e ∈ o.after,Region.binds .any e=true->upTo b i e.on=true:=by
  intro b i o hi hd hc s o' hs ho' e he hb
  rcases (hup b i s).1 hs with rfl | hs
  ·rw [hi] at ho';obtain rfl:=Option.some.inj ho';exact(hup _ _ _).2 (.inr (hd e he hb))
  ·exact(hup _ _ _).2 (.inr (hc s o' hs ho' e he hb))
 intro fuel
 induction fuel with
 | zero =>
  intro listed a w hsz hun hc ht hI;have hl: ∀ i,i < l.length->lof listed i=true:=by
   intro i hi
   cases hb: lof listed i with
   | true=>rfl
   | false =>
    have:=hless (lof listed) i hi hb;omega
  refine⟨?_,?_⟩
  ·cases hr: Region.ready .any l.toArray listed with
   | nil=>rfl
   | cons i r =>
    have: i ∈ Region.ready .any l.toArray listed:=by rw [hr];exact List.mem_cons_self
    obtain⟨o,h1,h2,_⟩:=(hbind listed i hsz).1 this;rw [hl i (List.getElem?_eq_some_iff.1 h1).1] at h2
    cases h2
  ·have htl': ¬ tl < l.length:=fun h=>by have:=ht h;rw [hl tl h] at this;cases this
   have:=hfin (lof listed) a w (fun i hi=>hl i (by rcases htl with h | h <;> omega)) hI
   rwa [if_neg htl'] at this
 | succ fuel ih =>
  intro listed a w hsz hun hc ht hI;refine⟨fun hr=>?_,fun i hi=>?_⟩
  ·have hl:=hall listed hsz hr;have htl': ¬ tl < l.length:=fun h=>by have:=ht h;rw [hl tl h] at this;cases this
   have:=hfin (lof listed) a w (fun i hi=>hl i (by rcases htl with h | h <;> omega)) hI
   rwa [if_neg htl'] at this
  ·obtain⟨o,ho,hbi,hdeps⟩:=(hbind listed i hsz).1 hi;have hil: i < l.length:=(List.getElem?_eq_some_iff.1 ho).1
   by_cases hit: i < tl
   ·obtain⟨φ,hφ,hqi⟩:=hq i o hit ho;refine cD hRl hok hm ho hφ hqi hI hdeps fun a' w' hI'=>?_;refine ih _ a' w' (by simpa using hsz) ?_ ?_ ?_ ?_
    ·rw [hset listed i hsz hil];have:=hless (lof listed) i hil hbi;omega
    ·rw [hset listed i hsz hil];exact hclosed _ i o ho hdeps hc
    ·intro h;rw [hset listed i hsz hil]
     cases hb: upTo (lof listed) i tl with
     | false=>rfl
     | true =>
      rcases (hup _ _ _).1 hb with h1 | h1
      ·omega
      ·rw [ht h] at h1;cases h1
    ·rw [hset listed i hsz hil];exact hI'
   ·
    have htl2: tl+1=l.length/\okTail l tl=true:=by
     rcases htl with h | h
     ·omega
     ·exact h
    have hie: i=tl:=by omega
    subst hie;have hall2: ∀ k,k<=i->∀ j,j < i->i - j<=k->lof listed j=true:=by
     intro k
     induction k with
     | zero=>intro _ j hj hk;omega
     | succ k ihk =>
      intro hk' j hj hk;have h1:=List.all_eq_true.1 htl2.2 j (List.mem_range.2 hj);obtain⟨s,hs,h2⟩:=List.any_eq_true.1 h1;rw [List.mem_range] at hs;simp only [Bool.and_eq_true] at h2;have hjs: j < s:=Nat.le_of_ble_eq_true h2.1;have h3:=h2.2
      cases hls: l[s]? with
      | none=>rw [hls] at h3;cases h3
      | some os =>
       rw [hls] at h3;obtain⟨e,he,hej⟩:=List.any_eq_true.1 h3;have he:=Array.mem_toList_iff.1 he;simp only [Bool.and_eq_true] at hej;have hej':=Nat.eq_of_beq_eq_true hej.2;rw [<- hej']
       by_cases hsi: s=i
       ·subst hsi;rw [ho] at hls;obtain rfl:=Option.some.inj hls;exact hdeps e he hej.1
       ·exact hc s os (ihk j0 s j0 j0) hls e he hej.1
    have hfull: ∀ j,j < i->lof listed j=true:=fun j hj=>hall2 i (Nat.le_refl _) j hj j0;have h1:=hfin (lof listed) a w hfull hI;rw [if_pos j0] at h1;refine wpOp_mono (fun a' w' hQ=>?_) h1;have hl': ∀ j,j < l.length->lof (listed.setIfInBounds i true) j=true:=by
     intro j hj;rw [hset listed i hsz hil];refine(hup _ _ _).2 ?_
     by_cases hji: j=i
     ·exact .inl hji
     ·exact .inr (hfull j j0)
    have hr: Region.ready .any l.toArray (listed.setIfInBounds i true)= []:=by
     cases hr: Region.ready .any l.toArray (listed.setIfInBounds i true) with
     | nil=>rfl
     | cons j r =>
      have hj: j ∈ Region.ready .any l.toArray (listed.setIfInBounds i true):=by rw [hr];exact List.mem_cons_self
      obtain⟨o',h1',h2',_⟩:=(hbind _ j (by simpa using hsz)).1 hj;rw [hl' j (List.getElem?_eq_some_iff.1 h1').1] at h2'
      cases h2'
    cases fuel with
    | zero=>exact ⟨hr,hQ⟩
    | succ f=>exact ⟨fun _=>hQ,fun j hj=>by rw [hr] at hj;cases hj⟩
theorem db {w: World} (h: Step w0 H0 L0 w H L): Step w0 H0 L0 { w with drawn:=w.drawn+1 } H L:=h.drew
theorem bD (hRl: Rel Rl) {l: List Oper} {id: Nat} {a: Act} {w: World} (Φ: List Fact) (hP: P.follows .mixedOrders=true) (hok: okDraw l N E=true) (hm: Monos Rl Φ) (hS: Step w0 H0 L0 w H L) (ha: Has D a N E) (hq: Quiets (Quiet Rl P l Φ D N E w0 H0 L0 H L Q) l Φ)
  (k: ∀ a w H',Rl H H'->Step w0 H0 L0 w H' L->Has D a N E->(∀(i: Nat) (o: Oper) (d: Nat) (φ: Fact),l[i]? =some o->o.dst=some d->Φ[i]? =some φ->∃ v,a.tmps[d]? =some v/\φ H' v)->Q .normal a w) :
  (Code.region id l.toArray true).wp P Q a w:=by
 refine wp_region_any hP ?_;have h0: lof (Array.replicate l.toArray.size false)=fun _=>false:=by
  funext i
  unfold lof;simp only [Array.getD_eq_getD_getElem?,Array.getElem?_replicate]
  split <;> rfl
 refine draw_run hRl (Φ:=Φ) (cH hok) hm l.length (.inl J) (fun i o _ ho=>hq.get i o ho) ?_ _ _ a _ j1 (fu _ _) ?_ (fun h=>absurd h (Nat.lt_irrefl _)) ?_
 ·intro b a w hb hI;rw [if_neg (Nat.lt_irrefl _)];obtain⟨ha,H',hle,hS,hf⟩:=hI;exact k a w H' hle hS ha fun i o d φ ho hd hφ=>hf i o d φ (hb i (List.getElem?_eq_some_iff.1 ho).1) ho hd hφ
 ·rw [h0];intro s o h
  cases h
 ·rw [h0];exact⟨ha,H,hRl.refl _,db hS,fun i o d φ h=>by cases h⟩
theorem cM (hRl: Rel Rl) {l: List Oper} {id: Nat} {a: Act} {w: World} {ot: Oper} (pre: List Oper) (hl: l=pre++ [ot]) (Φ: List Fact) (hP: P.follows .mixedOrders=true) (hok: okDraw l N E=true) (hot: okTail l pre.length=true) (hg: ot.guard=none) (hm: Monos Rl Φ) (hS: Step w0 H0 L0 w H L) (ha: Has D a N E) (hq: Quiets (Quiet Rl P l Φ D N E w0 H0 L0 H L Q) pre Φ)
  (k: ∀ a w H',Rl H H'->Step w0 H0 L0 w H' L->Has D a N E->(∀(i: Nat) (o: Oper) (d: Nat) (φ: Fact),pre[i]? =some o->o.dst=some d->Φ[i]? =some φ->∃ v,a.tmps[d]? =some v/\φ H' v)->Oper.wp P ot a w (fun a w=>Q .normal a w) Q) :
  (Code.region id l.toArray true).wp P Q a w:=by
 refine wp_region_any hP ?_;have h0: lof (Array.replicate l.toArray.size false)=fun _=>false:=by
  funext i
  unfold lof;simp only [Array.getD_eq_getD_getElem?,Array.getElem?_replicate]
  split <;> rfl
 have hlen: l.length=pre.length+1:=by rw [hl];simp
 refine draw_run hRl (Φ:=Φ) (cH hok) hm pre.length (.inr ⟨hlen.symm,hot⟩) (fun i o hi ho=>hq.get i o (by rw [hl,List.getElem?_append_left hi] at ho;exact ho)) ?_ _ _ a _ j1 (fu _ _) ?_ ?_ ?_
 ·intro b a w hb hI;rw [if_pos j0];obtain⟨ha,H',hle,hS,hf⟩:=hI;have hk:=k a w H' hle hS ha fun i o d φ ho hd hφ=>by
   have hi:=(List.getElem?_eq_some_iff.1 ho).1;exact hf i o d φ (hb i hi) (by rw [hl,List.getElem?_append_left hi];exact ho) hd hφ
  have hget: l.toArray[pre.length]? =some ot:=by rw [hl];simp
  unfold wpOp;rw [hget];simp only [Region.wanted,hg,if_true];exact .inl hk
 ·rw [h0];intro s o h
  cases h
 ·intro _;rw [h0]
 ·rw [h0];exact⟨ha,H,hRl.refl _,db hS,fun i o d φ h=>by cases h⟩
end
section
variable {P: Program} {N: Nat} {m: Env} {w0 w: World} {H0 H H': PHeap} {L0 L: List Ent} {D: List Deferred} {a: Act}
theorem qdone {Rl: PHeap->PHeap->Prop} {d: Nat} {v: Value} {φ: Fact} (hle: Rl H H') (ha: Has D a N ((d,v)::m)) (hS: Step w0 H0 L0 w H' L) (hv: φ H' v) :
  ∃ H'' v',Rl H H''/\Step w0 H0 L0 w H'' L/\(∀ d',some d=some d'->a.tmps[d']? =some v'/\φ H'' v')/\a.defers=D:=
 ⟨H',v,hle,hS,fun d' hd=>by obtain rfl:=Option.some.inj hd;exact⟨ha.get d v (by simp [lk]),hv⟩,ha.dfr⟩
theorem cr {o: Oper} {y: Nat->Option Bool} (hg: o.guard=none): Region.wanted o y=true:=by simp [Region.wanted,hg]
theorem ay {o: Oper} {ops: Array Oper} {g t: Nat} {og: Oper} {b: Bool} (hg: o.guard=some (g,b)) (ha: Has D a N m) (ho: ops[g]? =some og) (hd: og.dst=some t) (hv: lk m t=some (.bool b)): Region.wanted o (yielded ops a.tmps)=true:=by
 simp [Region.wanted,hg,eg ha ho hd hv]
theorem ap {o: Oper} {ops: Array Oper} {g t: Nat} {og: Oper} {b b': Bool} (hg: o.guard=some (g,b)) (hne:(b' == b)=false) (ha: Has D a N m) (ho: ops[g]? =some og) (hd: og.dst=some t) (hv: lk m t=some (.bool b')): ¬ Region.wanted o (yielded ops a.tmps)=true:=by
 simp only [Region.wanted,hg,eg ha ho hd hv];intro h;have: b'=b:=by simpa using h
 subst this;simp at hne
theorem Step.keep0 {H0: PHeap} (h: Step w0 H0 [] w H L): ∀(k: Nat) (o: Obj),w0.heap[k]? =some o->w.heap[k]? =some o:=fun k o hk=>(h.blk k (Array.getElem?_eq_some_iff.1 hk).1 cj).trans hk
theorem Step.keepN {H0: PHeap} (h: Step w0 H0 L0 w H L) {k: Nat} {o: Obj} (hk: w0.heap[k]? =some o) (hn: ¬ dom L0 k): w.heap[k]? =some o:=(h.blk k (Array.getElem?_eq_some_iff.1 hk).1 hn).trans hk
theorem retA {P: Program} {fn: Func} {R: Ending->World->Prop} {t ty b e sz bytes: Nat} {dd: TypeDesc} {z: Value} {cs: Array Value} {i: Nat} (hr: fn.results= #[.cell t ty]) (T: Ty P ty dd sz bytes z) (hfl: TypeDesc.flat dd=false) (hS: Step w0 H0 L0 w H L) (hi: L[i]? =some (some b,.cells cs e (0,0))) (ha: Has [] a N m) (hv: lk m t=some (.pointer (some ⟨b,0,none⟩))) (hsz: cs.size=sz) (hR: R (.returned (.agg cs)) w): bodyPost P fn R .ret a w:=by
 refine bodyPost_ret ?_ ha.dfr hR;have h1:=ha.get t _ hv;have hb:=hS.inv.at_ i hi;have hagg:(isAgg ty).run P w=.ok true w:=by
  unfold isAgg;simp only [Sem.run_bind,T.run_und,Result.andThen_ok]
  cases dd <;> first | rfl |(simp [TypeDesc.flat] at hfl)
 have hl:=run_loadCells_list (P:=P) w ⟨b,0,none⟩ cs.toList (fun j u hj=>by rw [bC];simp only [World.cell?,hb];simpa using hj);rw [Array.length_toList,hsz] at hl;simp [results,hr,Array.getD_eq_getD_getElem?,h1,asAddr,loadVar,hagg,T.run_sizeOf,hl]
theorem retA1 {P: Program} {fn: Func} {R: Ending->World->Prop} {t ty b e sz bytes u: Nat} {dd: TypeDesc} {z v: Value} {cs: Array Value} {i: Nat} (hr: fn.results= #[.cell t ty,.tmp u]) (T: Ty P ty dd sz bytes z) (hfl: TypeDesc.flat dd=false) (hS: Step w0 H0 L0 w H L) (hi: L[i]? =some (some b,.cells cs e (0,0))) (ha: Has [] a N m) (hv: lk m t=some (.pointer (some ⟨b,0,none⟩))) (hu: lk m u=some v) (hsz: cs.size=sz) (hR: R (.returned (.tuple #[.agg cs,v])) w): bodyPost P fn R .ret a w:=by
 refine bodyPost_ret ?_ ha.dfr hR;have h1:=ha.get t _ hv;have h2:=ha.get u _ hu;have hb:=hS.inv.at_ i hi;have hagg:(isAgg ty).run P w=.ok true w:=by
  unfold isAgg;simp only [Sem.run_bind,T.run_und,Result.andThen_ok]
  cases dd <;> first | rfl |(simp [TypeDesc.flat] at hfl)
 have hl:=run_loadCells_list (P:=P) w ⟨b,0,none⟩ cs.toList (fun j u hj=>by rw [bC];simp only [World.cell?,hb];simpa using hj);rw [Array.length_toList,hsz] at hl;simp [results,hr,Array.getD_eq_getD_getElem?,h1,h2,asAddr,loadVar,hagg,T.run_sizeOf,hl]
end
end Go.Vk
namespace Go.Vk
open Go.RowKit
def Row (v: Value) (en: Ent) (e size n: Nat) (xs: List Value): Prop:=
 xs.length=n * size/\((v=.slice none 0 0/\n=0/\en.1=none)\/
  ∃ b cap cur,v=.slice (some ⟨b,0,none⟩) n cap/\en=(some b,.cells cur e (0,0))/\n<=cap/\cap<=maxLen/\cur.size=cap * size/\cur.toList.take (n * size)=xs)
def noEnt: Ent:=(none,.cells #[] 0 (0,0))
theorem Row.nil (e size: Nat): Row (.slice none 0 0) noEnt e size 0 []:=⟨by simp,.inl ⟨rfl,rfl,rfl⟩⟩
theorem Row.slice {v: Value} {en: Ent} {e size n: Nat} {xs: List Value} (h: Row v en e size n xs): ∃ A c,v=.slice A n c:=by
 rcases h.2 with ⟨h1,rfl,_⟩ |⟨b,cap,cur,h1,_⟩
 ·exact⟨none,0,h1⟩
 ·exact⟨_,_,h1⟩
theorem Row.own {w: World} {H: PHeap} {L: List Ent} {v: Value} {en: Ent} {e size n: Nat} {xs: List Value} (h: Row v en e size n xs) (hI: Inv w H (en::L)): w.ownsRow 0 e size v n xs:=by
 refine⟨h.1,?_⟩
 rcases h.2 with ⟨h1,h2,_⟩ |⟨b,cap,cur,h1,h2,h3,h4,h5,h6⟩
 ·exact .inl ⟨h1,h2⟩
 ·exact .inr ⟨b,cap,cur,h1,Nat.zero_le _,by have:=hI.own en List.mem_cons_self b (by rw [h2]);rw [h2] at this;exact this,h3,h4,h5,h6⟩
section
variable {w0 w w': World} {H0 H: PHeap} {L0 L: List Ent}
theorem Inv.cons_none {en: Ent} (h: Inv w H L) (he: en.1=none): Inv w H (en::L):=by
 refine⟨fun e hm b hb=>?_,List.pairwise_cons.2 ⟨fun y _ b hb=>?_,h.pw⟩,fun k o hk=>⟨(h.ext k o hk).1,fun hd=>?_⟩⟩
 ·rcases List.mem_cons.1 hm with rfl | hm
  ·rw [he] at hb;cases hb
  ·exact h.own e hm b hb
 ·rw [he] at hb;cases hb
 ·rcases aV.1 hd with h1 | h1
  ·rw [he] at h1;cases h1
  ·exact(h.ext k o hk).2 h1
theorem Step.cons_none {en: Ent} (h: Step w0 H0 L0 w H L) (he: en.1=none): Step w0 H0 L0 w H (en::L):=
 ⟨h.os,h.tape,h.output,h.size,h.blk,h.inv.cons_none he,h.le,h.newH,fun k hk=>by
  rcases aV.1 hk with h1 | h1
  ·rw [he] at h1;cases h1
  ·exact h.newL k h1⟩
theorem Step.regrow {en: Ent} (h: Step w0 H0 L0 w H (en::L)) {b: Nat} {o: Obj} (hg: w.grownBy w' en.1) (hb: w'.heap[b]? =some o) (hat: en.1=some b\/w.heap.size<=b): Step w0 H0 L0 w' H ((some b,o)::L):=by
 have hpw:=List.pairwise_cons.1 h.inv.pw;have hold: ∀ k,k < w.heap.size->en.1≠some k->w'.heap[k]? =w.heap[k]?:=fun k hk hn=>hg.block k hk (fun e=>hn e.symm);have hLb: ∀ k,dom L k->k≠b:=fun k hk e=>by
  subst e
  rcases hat with h1 | h1
  ·obtain⟨x,hx,hxk⟩:=hk;exact hpw.1 x hx k h1 hxk
  ·have:=h.inv.lt (aV.2 (.inr hk));omega
 have hLe: ∀ k,dom L k->en.1≠some k:=fun k ⟨x,hx,hxk⟩ e=>hpw.1 x hx k e hxk;refine⟨hg.os.trans h.os,hg.tape.trans h.tape,hg.output.trans h.output,Nat.le_trans h.size hg.size,fun k hk hd=>?_,⟨fun e he c hc=>?_,?_,fun k p hk=>?_⟩,h.le,h.newH,fun k hk=>?_⟩
 ·have hn: en.1≠some k:=fun e=>by
   rcases h.newL k (aV.2 (.inl e)) with h1 | h1
   ·omega
   ·exact hd h1
  exact(hold k (by have:=h.size;omega) hn).trans (h.blk k hk hd)
 ·rcases List.mem_cons.1 he with rfl | he
  ·obtain rfl:=Option.some.inj hc;exact hb
  ·have hd: dom L c:=⟨e,he,hc⟩;rw [hold c (h.inv.lt (aV.2 (.inr hd))) (hLe c hd)];exact h.inv.own e (List.mem_cons_of_mem _ he) c hc
 ·refine List.pairwise_cons.2 ⟨fun y hy c hc hyc=>?_,hpw.2⟩;obtain rfl:=Option.some.inj hc;exact hLb _ ⟨y,hy,hyc⟩ J
 ·obtain⟨h1,h2⟩:=h.inv.ext k p hk;have hn: en.1≠some k:=fun e=>h2 (aV.2 (.inl e));have hlt:=h.inv.hlt hk;refine⟨(hold k hlt hn).trans h1,fun hd=>?_⟩
  rcases aV.1 hd with h3 | h3
  ·have h4: b=k:=Option.some.inj h3
   rcases hat with h5 | h5
   ·exact hn (by rw [h5,h4])
   ·omega
  ·exact h2 (aV.2 (.inr h3))
 ·rcases aV.1 hk with h1 | h1
  ·have h4: b=k:=Option.some.inj h1
   rcases hat with h5 | h5
   ·exact h.newL k (aV.2 (.inl (by rw [h5,h4])))
   ·have:=h.size;exact .inl j0
  ·exact h.newL k (aV.2 (.inr h1))
theorem Row.of_own {e size n: Nat} {v v': Value} {xs: List Value} {en: Ent} (h: Step w0 H0 L0 w H (en::L)) (hv: v.ownBlock=en.1) (hg: w.grownBy w' v.ownBlock) (ho: w'.ownsRow 0 e size v' n xs) (hat: v'.ownBlock=v.ownBlock\/v'.ownBlock=some w.heap.size) :
  ∃ en',Row v' en' e size n xs/\Step w0 H0 L0 w' H (en'::L):=by
 rcases ho.2 with ⟨h1,h2⟩ |⟨b,cap,cur,h1,_,h3,h4⟩
 ·refine⟨noEnt,⟨ho.1,.inl ⟨h1,h2,rfl⟩⟩,?_⟩;subst h1;have hen: en.1=none:=by
   rcases hat with h5 | h5
   ·rw [<- hv];exact h5.symm
   ·cases h5
  rw [hv,hen] at hg;have:=h.drop;refine Step.cons_none ?_ J;have hg': ∀ k,k < w.heap.size->w'.heap[k]? =w.heap[k]?:=fun k hk=>hg.block k hk j1;exact⟨hg.os.trans this.os,hg.tape.trans this.tape,hg.output.trans this.output,Nat.le_trans this.size hg.size,fun k hk hd=>(hg' k (by have:=this.size;omega)).trans (this.blk k hk hd),
   ⟨fun e he c hc=>by rw [hg' c (this.inv.lt ⟨e,he,hc⟩)];exact this.inv.own e he c hc,this.inv.pw,fun k p hk=>⟨(hg' k (this.inv.hlt hk)).trans (this.inv.ext k p hk).1,(this.inv.ext k p hk).2⟩⟩,this.le,this.newH,this.newL⟩
 ·refine⟨(some b,.cells cur e (0,0)),⟨ho.1,.inr ⟨b,cap,cur,h1,rfl,h4⟩⟩,?_⟩;subst h1;rw [hv] at hg hat;refine h.regrow hg h3 ?_
  rcases hat with h5 | h5
  ·exact .inl h5.symm
  ·right
   have: b=w.heap.size:=Option.some.inj h5;omega
theorem Row.blk {v: Value} {en: Ent} {e size n: Nat} {xs: List Value} (h: Row v en e size n xs): v.ownBlock=en.1:=by
 rcases h.2 with ⟨rfl,_,h3⟩ |⟨b,cap,cur,rfl,rfl,_⟩
 ·rw [h3];rfl
 ·rfl
end
section
variable {P: Program} {K: Act->World->Prop} {Q: Exit->Act->World->Prop} {D: List Deferred} {a: Act} {w: World} {N: Nat} {m: Env} {d: Nat} {ty: TypeId} {pos: String} {aft: Array Edge} {g: Option (Nat × Bool)}
variable {w0: World} {H0 H: PHeap} {L0 L: List Ent}
theorem aS {x y: Operand} {t e: TypeId} {de: TypeDesc} {size bytes: Nat} {z: Value} {v: Value} {en: Ent} {n k c: Nat} {xs news: List Value} {A: Option Addr} (ht: P.underlying t=some (.slice e)) (T: Ty P e de size bytes z) (hzs: z.cells.size=size) (hs0: Nat.blt 0 size=true)
  (hS: Step w0 H0 L0 w H (en::L)) (hR: Row v en e size n xs) (ha: Has D a N m) (hx: ev m x=some v) (hy: ev m y=some (.slice A k c))
  (hl: news.length=k * size) (hsrc: news≠[]->∃ b o e' cs fz,A=some ⟨b,o,none⟩/\w.heap[b]? =some (.cells cs e' fz)/\∀ j u,news[j]? =some u->cs[o+j]? =some u) (h1: ∀ u ∈ news,u.oneCell'=true)
  (hb:(n+k) * bytes<=140737488355328) (hb0: Nat.blt 0 bytes=true) (hd: Nat.blt d N=true)
  (kk: ∀ v' en' a' w',Row v' en' e size (n+k) (xs++news)->Step w0 H0 L0 w' H (en'::L)->Has D a' N ((d,v')::m)->K a' w') :
  Oper.wp P ⟨some d,.call { callee:=.builtin .append,args:= #[x,y],argTypes:= #[t,t] },ty,pos,aft,g⟩ a w K Q:=by
 obtain⟨i,hi,hz,hsz,hby⟩:=T.info;have hs: 0 < size:=Nat.le_of_ble_eq_true hs0;have hb0': 0 < bytes:=Nat.le_of_ble_eq_true hb0;have hnk: n+k<=maxLen:=by
  have: n+k<=(n+k) * bytes:=Nat.le_mul_of_pos_right _ hb0';simp only [maxLen];omega
 have hrun: ∃ v' w',(Builtin.append_ #[t,t] ty #[v,.slice A k c]).run P w=.ok v' w'/\w'.ownsRow 0 e size v' (n+k) (xs++news)/\w.grownBy w' v.ownBlock/\(v'.ownBlock=v.ownBlock\/v'.ownBlock=some w.heap.size):=by
  have hown:=hR.own hS.inv
  by_cases hn: news= []
  ·have hk: k=0:=by
    rw [hn] at hl
    rcases Nat.mul_eq_zero.1 hl.symm with h | h
    ·exact h
    ·omega
   subst hk hn;refine⟨v,w,?_,by simpa using hown,World.grownBy.refl w _,.inl J⟩
   rcases hown.2 with ⟨rfl,hn0⟩ |⟨g',cap,cur,rfl,_,hg',hnc,_⟩
   ·cases A <;> simp [Builtin.append_,run_underlying ht,sizeOf,typeInfo,hi,Builtin.lenOf,Builtin.firstCells,loadCells,loadCellsFrom]
   ·cases A <;> simp [Builtin.append_,run_underlying ht,sizeOf,typeInfo,hi,Builtin.lenOf,Builtin.firstCells,hnc,storeCells,loadCells,loadCellsFrom]
  ·obtain⟨b,o,e',cs,fz,rfl,hbk,hcs⟩:=hsrc hn;obtain⟨v',w',h1',h2',h3',_,h5'⟩:=run_append_own_at (P:=P) w 0 t ty e i z size bytes ht hi hz hsz hby hzs hs v n xs hown ⟨b,o,none⟩ k c news hl (fun j u hj=>by rw [bC];simp [World.cell?,hbk,hcs j u hj]) h1 hnk hb (Nat.zero_le _);exact⟨v',w',h1',h2',h3',h5'⟩
 obtain⟨v',w',hr,ho,hg,hat⟩:=hrun;obtain⟨en',hR',hS'⟩:=Row.of_own hS hR.blk hg ho hat;refine aM (w':=w') (v:=v') ?_ ha hd (fun a' h=>kk v' en' a' w' hR' hS' h);simp [execOp,resolve,invoke,builtin,ha.ev hx,ha.ev hy,hr]
def zcells (z: Value) (k: Nat): List Value:=(Builtin.zeroCells z.cells k).toList
theorem bG (z: Value) (k: Nat):(zcells z k).length=k * z.cells.size:=by simp [zcells,Builtin.zeroCells]
end
end Go.Vk
namespace Go.Vk
open Go.RowKit
structure TV where
 t: Tm
 A: Option Addr
 c: Nat
def TV.cells (x: TV): List Value:=tcells x.t x.A x.c
def TV.zero: TV:=⟨Tm.zero,none,0⟩
def flat (xs: List TV): List Value:=xs.flatMap TV.cells
theorem TV.len (x: TV): x.cells.length=4:=rfl
theorem flat_nil: flat []= []:=rfl
theorem eo (x: TV) (xs: List TV): flat (x::xs)=x.cells++flat xs:=by simp [flat]
theorem dr (xs ys: List TV): flat (xs++ys)=flat xs++flat ys:=by simp [flat]
theorem bS: ∀(xs: List TV),(flat xs).length=xs.length * 4
 | []=>rfl
 | x::xs=>by rw [eo,List.length_append,bS xs,TV.len,List.length_cons];omega
theorem flat_drop: ∀(xs: List TV) (j: Nat),(flat xs).drop (j * 4)=flat (xs.drop j)
 | [],j=>by simp [flat_nil]
 | x::xs,0=>by simp
 | x::xs,j+1=>by
  rw [eo,List.drop_succ_cons,List.drop_append,TV.len,List.drop_of_length_le (by rw [TV.len];omega),show (j+1) * 4 - 4=j * 4 by omega,flat_drop xs j,List.nil_append]
theorem flat_get {xs: List TV} {j i: Nat} {x: TV} {u: Value} (h: xs[j]? =some x) (hi: x.cells[i]? =some u):(flat xs)[j * 4+i]? =some u:=by
 have hlt: i < 4:=by have:=(List.getElem?_eq_some_iff.1 hi).1;rwa [TV.len] at this
 have hj: j < xs.length:=(List.getElem?_eq_some_iff.1 h).1;rw [<- List.getElem?_drop,flat_drop,List.drop_eq_getElem_cons hj,eo,List.getElem?_append_left (by rw [TV.len];exact hlt)];rw [(List.getElem?_eq_some_iff.1 h).2];exact hi
def AllR (H: PHeap) (xs: List TV): Prop:= ∀ x,x ∈ xs->RowT H x.A x.c x.t.l
theorem AllR.mono {H H': PHeap} {xs: List TV} (h: AllR H xs) (hl: Le H H'): AllR H' xs:=fun x hx=>(h x hx).mono hl
theorem AllR.nil (H: PHeap): AllR H []:=fun x h=>by cases h
theorem AllR.append {H: PHeap} {xs ys: List TV} (h: AllR H xs) (h': AllR H ys): AllR H (xs++ys):=fun x hx=>by
 rcases List.mem_append.1 hx with hx | hx
 ·exact h x hx
 ·exact h' x hx
theorem AllR.set {H: PHeap} {xs: List TV} (h: AllR H xs) {j: Nat} {x: TV} (hx: RowT H x.A x.c x.t.l): AllR H (xs.set j x):=fun y hy=>by
 rcases List.mem_or_eq_of_mem_set hy with hy | rfl
 ·exact h y hy
 ·exact hx
theorem AllR.one {H: PHeap} {x: TV} (hx: RowT H x.A x.c x.t.l): AllR H [x]:=fun y hy=>by
 rw [List.mem_singleton.1 hy];exact hx
theorem AllR.take {H: PHeap} {xs: List TV} (h: AllR H xs) (k: Nat): AllR H (xs.take k):=fun x hx=>h x (List.mem_of_mem_take hx)
theorem RowT.of_tvs {H : PHeap} {A : Option Addr} {c : Nat} {xs : List TV} (hA : AllR H xs) (hc : xs.length ≤ c) (hm : xs.length * 56 ≤ 140737488355328) {b o e : Nat} {cs : Array Value} {fz : Nat × Nat}
    (h0 : xs ≠ [] → A = some ⟨b, o, none⟩ ∧ H b = some (.cells cs e fz)) (hcs : ∀ j u, (flat xs)[j]? = some u → cs[o + j]? = some u) : RowT H A c (xs.map TV.t) := by
  refine .mk (by simpa using hc) (by simpa using hm) b o e cs fz (fun hn => h0 (fun e => by subst e; exact hn J)) (fun j => (xs.getD j TV.zero).A) (fun j => (xs.getD j TV.zero).c) (fun j t ht i u hu => ?_) (fun j t ht => ?_)
  all_goals
    rw [List.getElem?_map] at ht
    cases hx : xs[j]? with
    | none => rw [hx] at ht; cases ht
    | some x =>
      rw [hx] at ht
      have := Option.some.inj ht
      subst this
      have hg : xs.getD j TV.zero = x := by simp [List.getD_eq_getElem?_getD, hx]
      first
        | (rw [hg] at hu
           have := hcs _ u (flat_get hx hu)
           rwa [← Nat.add_assoc] at this)
        | (rw [hg]
           exact hA x (List.mem_of_getElem? hx))
section
variable {w0 w: World} {H0 H: PHeap} {L0 L: List Ent}
theorem Row.release {v: Value} {en: Ent} {e n: Nat} {xs: List TV} (h: Step w0 H0 L0 w H (en::L)) (hR: Row v en e 4 n (flat xs)) (hA: AllR H xs) (hm: n * 56<=140737488355328) :
  ∃ H' A c,v=.slice A n c/\Step w0 H0 L0 w H' L/\Le H H'/\RowT H' A c (xs.map TV.t):=by
 have hn: xs.length=n:=by have:=hR.1;rw [bS] at this;omega
 rcases hR.2 with ⟨h1,h2,_⟩ |⟨b,cap,cur,h1,h2,h3,h4,h5,h6⟩
 ·have hx: xs= []:=List.eq_nil_of_length_eq_zero j0;subst hx h2;exact⟨H,none,0,h1,h.drop,Le.refl _,RowT.nil H⟩
 ·subst h2;obtain⟨hS,hle⟩:=h.release;refine⟨_,_,cap,h1,hS,hle,RowT.of_tvs (hA.mono hle) j0 j0 (o:=0) (fun _=>⟨rfl,PHeap.put_at _ _ _⟩) (fun j u hj=>?_)⟩;rw [Nat.zero_add];rw [<- h6,List.getElem?_take] at hj
  split at hj
  ·simpa using hj
  ·cases hj
theorem Row.get {v: Value} {en: Ent} {e n: Nat} {xs: List TV} (hR: Row v en e 4 n (flat xs)) {j: Nat} (hj: j < n): ∃ x b cap cur,xs[j]? =some x/\v=.slice (some ⟨b,0,none⟩) n cap/\en=(some b,.cells cur e (0,0))/\∀ i u,x.cells[i]? =some u->cur[0+j * 4+i]? =some u:=by
 have hn: xs.length=n:=by have:=hR.1;rw [bS] at this;omega
 rcases hR.2 with ⟨h1,h2,_⟩ |⟨b,cap,cur,h1,h2,h3,h4,h5,h6⟩
 ·omega
 ·refine⟨xs[j]' j0,b,cap,cur,List.getElem?_eq_getElem j0,h1,h2,fun i u hu=>?_⟩;have:=flat_get (List.getElem?_eq_getElem (show j < xs.length by omega)) hu;rw [<- h6,List.getElem?_take] at this
  split at this
  ·rw [Nat.zero_add];simpa using this
  ·cases this
end
theorem Row.empty (b e size: Nat): Row (.slice (some ⟨b,0,none⟩) 0 0) (some b,.cells #[] e (0,0)) e size 0 []:=⟨by simp,.inr ⟨b,0,#[],rfl,rfl,Nat.le_refl _,by simp [maxLen],by simp,by simp⟩⟩
abbrev sv (A: Option Addr) (n c: Nat): Value:=.agg #[.slice A n c]
theorem Step.call_own {w0 w w': World} {H0 H H': PHeap} {L0 L Lc': List Ent} (h: Step w0 H0 L0 w H L) (c: Step w H [] w' H' Lc'): Step w0 H0 L0 w' H' (Lc'++L):=Step.frame (Lc:= []) h c
theorem ci {xs: List Value} (h:(xs.all fun u=>u.oneCell')=true): ∀ u ∈ xs,u.oneCell'=true:=fun u hu=>List.all_eq_true.1 h u hu
theorem ints_one (xs: List Int): ∀ u ∈ ints xs,u.oneCell'=true:=by
 intro u hu;obtain⟨x,_,rfl⟩:=List.mem_map.1 hu;rfl
theorem Step.give {w0 w: World} {H0 H: PHeap} {L0 L: List Ent} {b: Nat} {o: Obj} (h: Step w0 H0 L0 w H ((some b,o)::L)): ∃ H',Step w0 H0 L0 w H' L/\Le H H'/\H' b=some o:=
 ⟨_,h.release.1,h.release.2,PHeap.put_at _ _ _⟩
theorem RowT.of_lit {H: PHeap} {b e: Nat} {cs: Array Value} {fz: Nat × Nat} (xs: List TV) (hb: H b=some (.cells cs e fz)) (hA: AllR H xs) (hm: xs.length * 56<=140737488355328) (hc: cs.toList=flat xs): RowT H (some ⟨b,0,none⟩) xs.length (xs.map TV.t):=
 RowT.of_tvs hA (Nat.le_refl _) hm (o:=0) (fun _=>⟨rfl,hb⟩) (fun j u hj=>by rw [Nat.zero_add];rw [<- hc] at hj;simpa using hj)
theorem RowI.of_lit {H: PHeap} {b e: Nat} {cs: Array Value} {fz: Nat × Nat} (xs: List Int) (hb: H b=some (.cells cs e fz)) (hm: xs.length * 8<=140737488355328) (hc: cs.toList=ints xs): RowI H (some ⟨b,0,none⟩) xs.length xs:=by
 refine⟨by simp,by simpa using hm,b,0,e,cs,fz,fun _=>⟨rfl,hb⟩,fun j u hj=>?_⟩;rw [Nat.zero_add];rw [<- hc] at hj;simpa using hj
theorem AllR.cons {H: PHeap} {x: TV} {xs: List TV} (hx: RowT H x.A x.c x.t.l) (h: AllR H xs): AllR H (x::xs):=fun y hy=>by
 rcases List.mem_cons.1 hy with rfl | hy
 ·exact hx
 ·exact h y hy
theorem zcells_int (k: Nat): zcells (.int .i64 0) k=ints (List.replicate k 0):=by
 have hl:(zcells (.int .i64 0) k).length=k * 1:=bG _ _
 apply List.ext_getElem?
 intro j
 by_cases hj: j < k
 ·simp only [zcells,Builtin.zeroCells,Array.toList_map,List.getElem?_map,Array.toList_range,ints];have hr:(List.range (k *(Value.int .i64 0).cells.size))[j]? =some j:=List.getElem?_range (show j < k * 1 by omega);rw [hr,List.getElem?_replicate,if_pos hj];simp only [Option.map_some,Option.some.injEq];have h5: j %(Value.int .i64 0).cells.size=0:=Nat.mod_one j;simp only [h5];rfl
 ·rw [List.getElem?_eq_none (by rw [hl];omega),List.getElem?_eq_none (by simp [ints];omega)]
end Go.Vk
namespace Go.Vk
open Go.RowKit
def evp (m: Env): List (Nat × Operand)->Option (List (Nat × Value))
 | []=>some []
 |(i,x)::xs=>match ev m x,evp m xs with
  | some v,some vs=>some ((i,v)::vs)
  | _,_=>none
theorem Has.evp {D: List Deferred} {a: Act} {N: Nat} {m: Env} (h: Has D a N m): ∀ {xs: List (Nat × Operand)} {vs: List (Nat × Value)},Vk.evp m xs=some vs->(xs.toArray.map fun(p: Nat × Operand)=>(p.1,a.eval p.2))=vs.toArray:=by
 have key: ∀(xs: List (Nat × Operand)) (vs: List (Nat × Value)),Vk.evp m xs=some vs->(xs.map fun p=>(p.1,a.eval p.2))=vs:=by
  intro xs
  induction xs with
  | nil =>
   intro vs e;exact Option.some.inj e
  | cons x xs ih =>
   intro vs e;obtain⟨i,x⟩:=x;simp only [Vk.evp] at e
   split at e
   ·rename_i v us h1 h2
    obtain rfl:=Option.some.inj e;rw [List.map_cons,ih _ h2];simp only [h.ev h1]
   ·cases e
 intro xs vs e;rw [List.map_toArray,key xs vs e]
section
variable {P: Program} {K: Act->World->Prop} {Q: Exit->Act->World->Prop} {D: List Deferred} {a: Act} {w: World} {N: Nat} {m: Env} {d: Nat} {ty: TypeId} {pos: String} {aft: Array Edge} {g: Option (Nat × Bool)}
variable {w0: World} {H0 H: PHeap} {L0 L: List Ent}
theorem fold_set: ∀(vs: List Value) (k off: Nat) (cs: Array Value),off+k+vs.length<=cs.size->
  ((vs.zipIdx k).foldl (fun(cs: Array Value) (p: Value × Nat)=>cs.setIfInBounds (off+p.2) p.1) cs).toList=cs.toList.take (off+k)++vs++cs.toList.drop (off+k+vs.length)
 | [],k,off,cs,h=>by simp
 | v::vs,k,off,cs,h=>by
  simp only [List.length_cons] at h;rw [List.zipIdx_cons,List.foldl_cons,fold_set vs (k+1) off _ (by simp;omega)];have hl: off+k < cs.toList.length:=by simp;omega
  simp only [Array.toList_setIfInBounds];rw [List.set_eq_take_append_cons_drop,if_pos hl];have e1:(cs.toList.take (off+k)).length=off+k:=by simp;omega
  rw [List.take_append,e1,show off+(k+1) - (off+k)=1 by omega,List.take_succ_cons,List.take_zero,List.take_of_length_le (by rw [e1];omega)];rw [List.drop_append,e1,List.drop_of_length_le (by rw [e1];omega),List.nil_append,show off+(k+1)+vs.length - (off+k)=vs.length+1 by omega,List.drop_succ_cons,List.drop_drop];simp only [List.append_assoc,List.cons_append,List.nil_append,List.length_cons]
  congr 4
  omega
def fillL (place: Nat->Option (Nat × Nat)): List Value->List (Nat × Value)->Option (List Value)
 | cs, []=>some cs
 | cs,(i,v)::rest=>match place i with
  | none=>none
  | some (off,size)=>bif Nat.beq v.cells.toList.length size&&Nat.ble (off+size) cs.length then fillL place (cs.take off++v.cells.toList++cs.drop (off+size)) rest else none
theorem dc (place: Nat->Option (Nat × Nat)): ∀(vs: List (Nat × Value)) (cs out: List Value),fillL place cs vs=some out->Instr.fill place cs.toArray vs=some out.toArray
 | [],cs,out,h=>by
  rw [fillL] at h;rw [Instr.fill,Option.some.inj h]
 |(i,v)::rest,cs,out,h=>by
  rw [fillL] at h
  cases hp: place i with
  | none=>rw [hp] at h;cases h
  | some q =>
   obtain⟨off,size⟩:=q;rw [hp] at h;simp only at h
   cases hc:(Nat.beq v.cells.toList.length size&&Nat.ble (off+size) cs.length) with
   | false=>rw [hc] at h;cases h
   | true =>
    rw [hc] at h;simp only [Bool.and_eq_true] at hc;have h1: v.cells.toList.length=size:=Nat.eq_of_beq_eq_true hc.1;have h2:=Nat.le_of_ble_eq_true hc.2;have ih:=dc place rest _ out h;have h1': v.cells.size=size:=by simpa using h1
    rw [Instr.fill,hp];simp only;rw [if_neg (by simp only [Bool.or_eq_true,decide_eq_true_eq,List.size_toArray];omega)];rw [<- ih]
    congr 1
    apply Array.ext'
    have:=fold_set v.cells.toList 0 off cs.toArray (by simp;omega);rw [h1,Nat.add_zero] at this;simp only [List.toList_toArray] at this ⊢;rw [<- this,<- Array.foldl_toList];simp
theorem aA {t: TypeId} {ps: Array (Nat × Operand)} {fs: Array Field} {sz bytes: Nat} {z: Value} {pl: List (Nat × Nat)} {vs: List (Nat × Value)} {cells: List Value} (T: Ty P t (.struct fs) sz bytes z) (hpl: ∀ w: World,(fs.mapM fun f=>do pure (f.offset,<- sizeOf f.type): Sem (Array (Nat × Nat))).run P w=.ok pl.toArray w)
  (ha: Has D a N m) (hps:(ps.map fun(p: Nat × Operand)=>(p.1,a.eval p.2))=vs.toArray) (hfl: fillL (fun i=>pl[i]?) z.cells.toList vs=some cells) (hd: Nat.blt d N=true) (k: ∀ a',Has D a' N ((d,.agg cells.toArray)::m)->K a' w) :
  Oper.wp P ⟨some d,.build t ps,ty,pos,aft,g⟩ a w K Q:=by
 refine aM ?_ ha hd k;have hfill: Instr.fill (fun i=>pl[i]?) z.cells vs=some cells.toArray:=by have:=dc _ _ _ _ hfl;simpa using this
 have hps':(ps.map fun(x: Nat × Operand)=>match x with |(i,x)=>(i,a.eval x))=vs.toArray:=hps;have hpl2:(fun(i: Nat)=>pl.toArray[i]?)=fun (i: Nat)=>pl[i]?:=by funext i;simp
 simp only [execOp,hps',Instr.build,Sem.run_bind,T.run_zero,T.run_und,Result.andThen_ok,hpl w,hpl2,hfill];rfl
theorem range0 (f: Nat->Value):(Array.range 0).map f= #[]:=by simp [Array.range]
def litCells (z: Array Value) (k: Nat): Array Value:=(Array.range k).map (z[· % z.size]!)
def lits (z: List Value): Nat->List Value
 | 0=> []
 | k+1=>z++lits z k
theorem dt (z: List Value): ∀ k,(lits z k).length=k * z.length
 | 0=>by simp [lits]
 | k+1=>by rw [lits,List.length_append,dt z k,Nat.add_mul];omega
theorem lits_get (z: List Value): ∀(k j: Nat),j < k * z.length->(lits z k)[j]? =z[j % z.length]?
 | 0,j,h=>by simp at h
 | k+1,j,h=>by
  rw [Nat.add_mul] at h;rw [lits]
  by_cases hj: j < z.length
  ·rw [List.getElem?_append_left hj,Nat.mod_eq_of_lt hj]
  ·rw [List.getElem?_append_right j0,lits_get z k _ j0]
   congr 1
   rw [<- Nat.add_mod_right (j - z.length) z.length]
   congr 1
   omega
theorem litCells_eq (z: Array Value) (k: Nat): litCells z (k * z.size)=(lits z.toList k).toArray:=by
 have hlen:(lits z.toList k).length=k * z.size:=by rw [dt,Array.length_toList]
 apply Array.ext_getElem?
 intro j
 by_cases hj: j < k * z.size
 ·have hp: 0 < z.size:=by
   rcases Nat.eq_zero_or_pos z.size with h | h
   ·rw [h] at hj;simp at hj
   ·exact h
  have hm: j % z.size < z.size:=Nat.mod_lt _ hp;have h1:=lits_get z.toList k j (by rw [Array.length_toList];exact hj);rw [Array.length_toList] at h1;have h2:(litCells z (k * z.size))[j]? =some z[j % z.size]!:=by
   unfold litCells;rw [Array.getElem?_map,Array.getElem?_range,if_pos hj];rfl
  rw [h2,List.getElem?_toArray,h1,getElem!_pos z _ hm];simp [hm]
 ·rw [Array.getElem?_eq_none (by simp [litCells];omega),Array.getElem?_eq_none (by simp [hlen];omega)]
theorem a6 {t e: TypeId} {de: TypeDesc} {size bytes len: Nat} {z: Value} {ps: Array (Nat × Operand)} {vs: List (Nat × Value)} {cells: List Value} (ht: P.underlying t=some (.slice e)) (T: Ty P e de size bytes z)
  (hS: Step w0 H0 L0 w H L) (ha: Has D a N m) (hps:(ps.map fun(p: Nat × Operand)=>(p.1,a.eval p.2))=vs.toArray) (hlim: Nat.ble (len * size) 16777216=true) (hzs: z.cells.size=size) (hfl0: fillL (fun i=>some (i * size,size)) (lits z.cells.toList len) vs=some cells) (hd: Nat.blt d N=true)
  (k: ∀ b a' w',Step w0 H0 L0 w' H ((some b,.cells cells.toArray e (0,0))::L)->Has D a' N ((d,.slice (some ⟨b,0,none⟩) len len)::m)->K a' w') :
  Oper.wp P ⟨some d,.buildSlice t len ps,ty,pos,aft,g⟩ a w K Q:=by
 have hfl:=dc _ _ _ _ hfl0;have hfill: Instr.fill (fun i=>some (i * size,size)) (if len * size=0 then litCells #[] 0 else litCells z.cells (len * size)) vs=some cells.toArray:=by
  rw [<- hfl]
  congr 1
  split
  ·rename_i h0
   have:(lits z.cells.toList len).length=0:=by rw [dt,Array.length_toList,hzs];exact h0
   rw [List.eq_nil_of_length_eq_zero this];simp [litCells,Array.range]
  ·rw [<- hzs];exact litCells_eq _ _
 have hlim': ¬(len * size > 2 ^ 24):=by
  have:=Nat.le_of_ble_eq_true hlim;omega
 have hps':(ps.map fun(x: Nat × Operand)=>match x with |(i,x)=>(i,a.eval x))=vs.toArray:=hps;refine aM (w':=w.alloc (.cells cells.toArray e (0,0))) (v:=.slice (some ⟨w.heap.size,0,none⟩) len len) ?_ ha hd (fun a' h=>k _ a' _ (hS.alloc _) h);simp only [execOp,hps',Instr.buildSlice,Sem.run_bind,run_underlying ht,T.run_sizeOf,Result.andThen_ok,if_neg hlim']
 by_cases h0: len * size=0
 ·rw [if_pos h0] at hfill;have hf: Instr.fill (fun i=>some (i * size,size)) ((Array.range (len * size)).map fun x=>(#[]: Array Value)[x %(#[]: Array Value).size]!) vs=some cells.toArray:=by rw [h0];exact hfill
  rw [h0,range0] at hf;simp only [h0,if_true,Sem.run_pure,Result.andThen_ok,range0,hf];simp [newRow,newObj,Sem.run]
 ·rw [if_neg h0] at hfill;have hf: Instr.fill (fun i=>some (i * size,size)) ((Array.range (len * size)).map fun x=>z.cells[x % z.cells.size]!) vs=some cells.toArray:=hfill;simp [h0,T.run_zero,hf,newRow,newObj,Sem.run]
theorem fh {x y: Operand} {t e: TypeId} {de: TypeDesc} {size bytes k: Nat} {z: Value} {i j: Int} (ht: P.underlying t=some (.slice e)) (T: Ty P e de size bytes z) (hzs: z.cells.size=size) (hs0: Nat.blt 0 size=true) (hS: Step w0 H0 L0 w H L) (ha: Has D a N m) (hx: ev m x=some (.int .i64 i)) (hy: ev m y=some (.int .i64 j)) (hi: i=(k: Int)) (hj: j=(k: Int)) (hb: k * bytes<=140737488355328) (hb0: Nat.blt 0 bytes=true) (hd: Nat.blt d N=true)
  (kk: ∀ b a' w',Row (.slice (some ⟨b,0,none⟩) k k) (some b,.cells (zcells z k).toArray e (0,0)) e size k (zcells z k)->Step w0 H0 L0 w' H ((some b,.cells (zcells z k).toArray e (0,0))::L)->Has D a' N ((d,.slice (some ⟨b,0,none⟩) k k)::m)->K a' w') :
  Oper.wp P ⟨some d,.makeSlice t x y,ty,pos,aft,g⟩ a w K Q:=by
 subst hi hj;obtain⟨q,hq,hqz,hqs,hqb⟩:=T.info;have hs: 0 < size:=Nat.le_of_ble_eq_true hs0;have hb0': 0 < bytes:=Nat.le_of_ble_eq_true hb0;have hk: k<=k * bytes:=Nat.le_mul_of_pos_right _ hb0';have hw: IntKind.i64.wrap (k: Int)=k:=by rw [IntKind.wrap_i64];omega
 have hbig: ¬((bytes: Int) *(k: Int) > 2 ^ 48):=by
  rw [<- Int.natCast_mul,Nat.mul_comm];have:(2: Int) ^ 48=281474976710656:=by decide
  omega
 have hrow: Row (.slice (some ⟨w.heap.size,0,none⟩) k k) (some w.heap.size,.cells (zcells z k).toArray e (0,0)) e size k (zcells z k):=
  ⟨by rw [bG,hzs],.inr ⟨_,k,_,rfl,rfl,Nat.le_refl _,by simp only [maxLen];omega,by simp [bG,hzs],by rw [List.take_of_length_le (by simp [bG,hzs])]⟩⟩
 refine aM (w':=w.alloc (.cells (zcells z k).toArray e (0,0))) (v:=.slice (some ⟨w.heap.size,0,none⟩) k k) ?_ ha hd (fun a' h=>kk _ a' _ hrow (hS.alloc _) h);have hz: ∀ n,n=k * size->((Array.range n).map fun x=>z.cells[x % z.cells.size]!)=(zcells z k).toArray:=by
  intro n hn;subst hn;rw [<- hzs,<- List.toArray_range,List.map_toArray];simp [zcells,Builtin.zeroCells]
 have hc:((decide ((k: Int) < 0)||decide ((q.bytes: Int) *(k: Int) > 2 ^ 48))||decide ((k: Int) < 0)||decide ((k: Int) >(k: Int)))=false:=by
  rw [hqb];simp only [Bool.or_eq_false_iff,decide_eq_false_iff_not];omega
 simp only [execOp,ha.ev hx,ha.ev hy,Instr.makeSlice,Sem.run_bind,run_underlying ht,Result.andThen_ok,asInt,asIntOf,Sem.run_pure,typeInfo,program,Sem.run,hq,hw,hc,Bool.false_eq_true,if_false,run_askRoom,T.run_sizeOf,Int.toNat_natCast]
 by_cases h0: k * size=0
 ·have hk0: k=0:=by rcases Nat.mul_eq_zero.1 h0 with h | h <;> omega
  subst hk0;have hz0:(zcells z 0).toArray= #[]:=by simp [zcells,Builtin.zeroCells]
  simp only [Nat.zero_mul,if_true,Sem.run_pure,Result.andThen_ok,range0,hz0];simp [newRow,newObj,Sem.run]
 ·simp [h0,T.run_zero,hz _ J,newRow,newObj,Sem.run]
theorem o_sliceH {x y: Operand} {t e: TypeId} {de: TypeDesc} {size bytes: Nat} {z: Value} {A: Option Addr} {n c h: Nat} {i: Int} (ht: P.underlying t=some (.slice e)) (T: Ty P e de size bytes z) (ha: Has D a N m) (hx: ev m x=some (.slice A n c)) (hy: ev m y=some (.int .i64 i)) (hi: i=(h: Int)) (hc: h<=c) (hd: Nat.blt d N=true)
  (k: ∀ a',Has D a' N ((d,.slice A h c)::m)->K a' w): Oper.wp P ⟨some d,.slice t x none (some y) none,ty,pos,aft,g⟩ a w K Q:=by
 subst hi;refine aM ?_ ha hd k;have hA:(A.map fun p=>p.add (0 * size))=A:=by cases A <;> simp [Addr.add]
 have hA':(A.map fun p=>p.add 0)=A:=by cases A <;> simp [Addr.add]
 by_cases hc0: c=0
 ·subst hc0;have: h=0:=by omega
  subst this;simp [execOp,ha.ev hx,ha.ev hy,Instr.sliceAt,Instr.slice,Instr.sliceBounds,Instr.sliceBound,asIntOf,run_underlying ht,T.run_sizeOf]
 ·simp [execOp,ha.ev hx,ha.ev hy,Instr.sliceAt,Instr.slice,Instr.sliceBounds,Instr.sliceBound,asIntOf,run_underlying ht,T.run_sizeOf,hc,hc0,hA,hA']
theorem o_max {x y: Operand} {tx ty': TypeId} {i j: Int} (ha: Has D a N m) (hx: ev m x=some (.int .i64 i)) (hy: ev m y=some (.int .i64 j)) (hd: Nat.blt d N=true) (k: ∀ a',Has D a' N ((d,.int .i64 (max i j))::m)->K a' w) :
  Oper.wp P ⟨some d,.call { callee:=.builtin .max,args:= #[x,y],argTypes:= #[tx,ty'] },ty,pos,aft,g⟩ a w K Q:=by
 refine aM ?_ ha hd k;have h:(if j > i then j else i)=max i j:=by rw [Int.max_def];split <;> split <;> omega
 simp [execOp,resolve,invoke,builtin,ha.ev hx,ha.ev hy,Builtin.max_,Builtin.max2,<- h]
theorem Row.at_ {v: Value} {en: Ent} {e size n: Nat} {xs: List Value} (hR: Row v en e size n xs) {j: Nat} (hj: j < n): ∃ b cap cur,v=.slice (some ⟨b,0,none⟩) n cap/\en=(some b,.cells cur e (0,0))/\(∀ i u,i < size->xs[j * size+i]? =some u->cur[0+j * size+i]? =some u)/\cur.toList.length=cap * size/\n<=cap/\cur.toList.take (n * size)=xs:=by
 rcases hR.2 with ⟨h1,h2,_⟩ |⟨b,cap,cur,h1,h2,h3,h4,h5,h6⟩
 ·omega
 ·refine⟨b,cap,cur,h1,h2,fun i u hi hu=>?_,by simpa using h5,h3,h6⟩;rw [<- h6,List.getElem?_take] at hu
  split at hu
  ·rw [Nat.zero_add];simpa using hu
  ·cases hu
def splice (xs: List Value) (o: Nat) (cs: List Value): List Value:=xs.take o++cs++xs.drop (o+cs.length)
theorem splice_ints {xs: List Int} {j: Nat} (hj: j < xs.length) (x: Int): splice (ints xs) (j * 1) [.int .i64 x]=ints (xs.set j x):=by
 unfold splice ints;rw [Nat.mul_one,List.map_set,List.set_eq_take_append_cons_drop,if_pos (by simpa using hj),List.append_assoc];rfl
theorem take_splice {l cs: List Value} {o k: Nat} (h: o+cs.length<=k) (hk: k<=l.length):(splice l o cs).take k=splice (l.take k) o cs:=by
 unfold splice;have e1: l.take o=(l.take k).take o:=by rw [List.take_take,Nat.min_eq_left j0]
 have e2: l.drop (o+cs.length)=(l.take k).drop (o+cs.length)++l.drop k:=by
  conv=>lhs;rw [<- List.take_append_drop k l]
  rw [List.drop_append_of_le_length (by rw [List.length_take];omega)]
 rw [e1,e2,<- List.append_assoc];refine List.take_left' ?_;simp only [List.length_append,List.length_take,List.length_drop];omega
theorem fi {x y: Operand} {t e: TypeId} {dd: TypeDesc} {size bytes n j i b o: Nat} {z v sv: Value} {en: Ent} {xs: List Value} {A: Option Addr} {c: Nat} (T: Ty P t dd size bytes z) (hS: Step w0 H0 L0 w H L) (hi: L[i]? =some en) (hR: Row sv en e size n xs) (hsv: sv=.slice A n c) (hA: A=some ⟨b,0,none⟩) (hj: j < n) (ho: o=0+j * size)
  (ha: Has D a N m) (hx: ev m x=some (.pointer (some ⟨b,o,none⟩))) (hy: ev m y=some v) (hsz: v.cells.size=size) (h1:(v.cells.toList.all fun u=>u.oneCell')=true)
  (k: ∀ en' a' w',Row sv en' e size n (splice xs (j * size) v.cells.toList)->en'.1=en.1->Step w0 H0 L0 w' H (L.set i en')->Has D a' N m->K a' w') :
  Oper.wp P ⟨none,.store t x y,ty,pos,aft,g⟩ a w K Q:=by
 subst hsv hA ho;obtain⟨b',cap,cur,hv,hen,_,hl,hnc,htk⟩:=hR.at_ hj;injection hv with hv1 _ hv2
 injection hv1 with hv1
 injection hv1 with hv1
 subst hv1 hv2;subst hen;have hcl: v.cells.toList.length=size:=by simpa using hsz
 have hle: j * size+size<=c * size:=by
  have:(j+1) * size<=c * size:=Nat.mul_le_mul_right _ j0
  rwa [Nat.add_mul,Nat.one_mul] at this
 have hle2: j * size+size<=n * size:=by
  have:(j+1) * size<=n * size:=Nat.mul_le_mul_right _ j0
  rwa [Nat.add_mul,Nat.one_mul] at this
 have hnl: n * size<=c * size:=Nat.mul_le_mul_right _ hnc;refine al (cs':=(cur.toList.take (0+j * size)++v.cells.toList++cur.toList.drop (0+j * size+v.cells.size)).toArray) T hS hi ha hx hy hsz h1 j1 (Nat.ble_eq_true_of_le (by rw [hsz,Nat.zero_add,<- Array.length_toList,hl];exact hle)) (fun a' w' hS' ha'=>k (some b,.cells (cur.toList.take (0+j * size)++v.cells.toList++cur.toList.drop (0+j * size+v.cells.size)).toArray e (0,0)) a' w' ⟨?_,.inr ⟨b,c,_,rfl,rfl,hnc,?_,?_,?_⟩⟩ J hS' ha')
 ·unfold splice;have:=hR.1;simp only [List.length_append,List.length_take,List.length_drop,hcl,this];omega
 ·rcases hR.2 with ⟨h,_⟩ |⟨_,_,_,h,_,_,h4,_⟩
  ·cases h
  ·injection h with _ _ h
   rw [h];exact h4
 ·simp only [List.size_toArray,List.length_append,List.length_take,List.length_drop,hl,hcl,Nat.zero_add,hsz];omega
 ·have h:=take_splice (l:=cur.toList) (cs:=v.cells.toList) (o:=j * size) (k:=n * size) (by rw [hcl];exact hle2) (by rw [hl];exact hnl);rw [htk] at h;rw [<- h,Nat.zero_add,hsz];unfold splice;rw [hcl]
end
end Go.Vk
namespace Go.Vk
open Go.RowKit
section
variable {P: Program} {K: Act->World->Prop} {Q: Exit->Act->World->Prop} {D: List Deferred} {a: Act} {w: World} {N: Nat} {m: Env} {d: Nat} {ty: TypeId} {pos: String} {aft: Array Edge} {g: Option (Nat × Bool)}
variable {w0: World} {H0 H: PHeap} {L0 L: List Ent}
theorem o_indexArr {x y: Operand} {t e: TypeId} {dd: TypeDesc} {sz bytes: Nat} {z: Value} {b o n j: Nat} {i: Int} (ht: P.underlying t=some (.array n e)) (T: Ty P e dd sz bytes z) (ha: Has D a N m) (hx: ev m x=some (.pointer (some ⟨b,o,none⟩))) (hy: ev m y=some (.int .i64 i)) (hij: i=(j: Int)) (hj: j < n) (hd: Nat.blt d N=true)
  (k: ∀ a',Has D a' N ((d,.pointer (some ⟨b,o+j * sz,none⟩))::m)->K a' w) :
  Oper.wp P ⟨some d,.indexAddr t x y,ty,pos,aft,g⟩ a w K Q:=by
 subst hij;exact aM (by simp [execOp,ha.ev hx,ha.ev hy,Instr.indexAt,asIntOf,run_underlying ht,hj,Instr.sureAddr,T.run_sizeOf,bC]) ha hd k
theorem run_equalIn_bool (w: World) (k: Nat) {t: TypeId} (hT: P.underlying t=some .bool) (p q: Bool):(Op.equalIn (k+1) t (.bool p) (.bool q)).run P w=.ok (p == q) w:=by
 simp [Op.equalIn,run_underlying hT]
theorem o_eqb {x y: Operand} {p q: Bool} {tx ty': TypeId} (hT: P.underlying tx=some .bool) (ha: Has D a N m) (hx: ev m x=some (.bool p)) (hy: ev m y=some (.bool q)) (hd: Nat.blt d N=true) (k: ∀ a',Has D a' N ((d,.bool (p == q))::m)->K a' w) :
  Oper.wp P ⟨some d,.binOp .eql tx x y ty',ty,pos,aft,g⟩ a w K Q:=
 aM (by
  have h:=run_equalIn_bool (P:=P) w 9999 hT p q;have h2:(binOp .eql tx (.bool p) (.bool q)).run P w=.ok (.bool (p == q)) w:=by
   simp only [binOp];simp [Op.equal,Op.maxDepth,h]
  simp [execOp,ha.ev hx,ha.ev hy,eqGuard,h2]) ha hd k
theorem o_rangeS {x: Operand} {tx: TypeId} {s: ByteArray} (hT: P.underlying tx=some .string) (hS: Step w0 H0 L0 w H L) (ha: Has D a N m) (hx: ev m x=some (.string s)) (hd: Nat.blt d N=true)
  (k: ∀ b a' w',Step w0 H0 L0 w' H ((some b,.stringIter s 0)::L)->Has D a' N ((d,.pointer (some ⟨b,0,none⟩))::m)->K a' w'): Oper.wp P ⟨some d,.range tx x,ty,pos,aft,g⟩ a w K Q:=
 aM (w':=w.alloc (.stringIter s 0)) (by simp [execOp,ha.ev hx,Instr.range,run_underlying hT,newObj,Sem.run]) ha hd (fun a' h=>k _ a' _ (hS.alloc _) h)
theorem run_setObj_it (w: World) (b: Nat) (s: ByteArray) (p q: Nat) (h: w.heap[b]? =some (.stringIter s p)):(setObj b (.stringIter s q)).run P w=.ok () { w with heap:=w.heap.setIfInBounds b (.stringIter s q) }:=by
 simp [setObj,Sem.run,h]
theorem o_nextS {x: Operand} {b i p c n: Nat} {s: ByteArray} (hS: Step w0 H0 L0 w H L) (hi: L[i]? =some (some b,.stringIter s p)) (hlt: p < s.size) (hdec: Utf8.decode s p=(c,n)) (ha: Has D a N m) (hx: ev m x=some (.pointer (some ⟨b,0,none⟩))) (hd: Nat.blt d N=true)
  (k: ∀ a' w',Step w0 H0 L0 w' H (L.set i (some b,.stringIter s (p+n)))->Has D a' N ((d,.tuple #[.bool true,.int .i64 (p: Int),.int .i32 (c: Int)])::m)->K a' w'): Oper.wp P ⟨some d,.next x true,ty,pos,aft,g⟩ a w K Q:=by
 have hb:=hS.inv.at_ i hi;have hbl: b < w.heap.size:=(Array.getElem?_eq_some_iff.1 hb).1;have hr:(execOp a.eval ⟨some d,.next x true,ty,pos,aft,g⟩).run P w=.ok (.value (.tuple #[.bool true,.int .i64 (p: Int),.int .i32 (c: Int)])) { w with heap:=w.heap.setIfInBounds b (.stringIter s (p+n)) }:=by
  simp [execOp,ha.ev hx,Instr.next,getObj,Sem.run,hb,hlt,hdec,run_setObj_it w b s p (p+n) hb,goInt]
 refine aM hr ha hd (fun a' h=>k a' _ (hS.write i hi _ J J J j1 ?_ ?_) h)
 ·simp [hbl]
 ·intro q hq;simp only;rw [Array.getElem?_setIfInBounds_ne j0]
theorem o_nextE {x: Operand} {b i p: Nat} {s: ByteArray} (hS: Step w0 H0 L0 w H L) (hi: L[i]? =some (some b,.stringIter s p)) (hlt: ¬ p < s.size) (ha: Has D a N m) (hx: ev m x=some (.pointer (some ⟨b,0,none⟩))) (hd: Nat.blt d N=true)
  (k: ∀ a',Has D a' N ((d,.tuple #[.bool false])::m)->K a' w): Oper.wp P ⟨some d,.next x true,ty,pos,aft,g⟩ a w K Q:=by
 have hb:=hS.inv.at_ i hi;exact aM (by simp [execOp,ha.ev hx,Instr.next,getObj,Sem.run,hb,hlt]) ha hd k
theorem o_indexS {x y: Operand} {tx: TypeId} {s: ByteArray} {i: Int} {j: Nat} {u: UInt8} (hT: P.underlying tx=some .string) (ha: Has D a N m) (hx: ev m x=some (.string s)) (hy: ev m y=some (.int .i64 i)) (hij: i=(j: Int)) (hj: s.data[j]? =some u) (hd: Nat.blt d N=true)
  (k: ∀ a',Has D a' N ((d,.int .u8 (u.toNat: Int))::m)->K a' w): Oper.wp P ⟨some d,.index tx x y,ty,pos,aft,g⟩ a w K Q:=by
 subst hij;have hs: s[j]? =some u:=by
  have hl: j < s.data.size:=(Array.getElem?_eq_some_iff.1 hj).1;have hl': j < s.size:=hl;rw [getElem?_pos s j hl'];have:=(Array.getElem?_eq_some_iff.1 hj).2;rw [<- this];rfl
 exact aM (by simp [execOp,ha.ev hx,ha.ev hy,Instr.index,asIntOf,run_underlying hT,hs]) ha hd k
theorem o_buildArr {t e: TypeId} {ps: Array (Nat × Operand)} {n sz bytes se be: Nat} {de: TypeDesc} {z ze: Value} {vs: List (Nat × Value)} {cells: List Value} (T: Ty P t (.array n e) sz bytes z) (TE: Ty P e de se be ze)
  (ha: Has D a N m) (hps:(ps.map fun(p: Nat × Operand)=>(p.1,a.eval p.2))=vs.toArray) (hfl: fillL (fun i=>some (i * se,se)) z.cells.toList vs=some cells) (hd: Nat.blt d N=true) (k: ∀ a',Has D a' N ((d,.agg cells.toArray)::m)->K a' w) :
  Oper.wp P ⟨some d,.build t ps,ty,pos,aft,g⟩ a w K Q:=by
 refine aM ?_ ha hd k;have hps':(ps.map fun(x: Nat × Operand)=>match x with |(i,x)=>(i,a.eval x))=vs.toArray:=hps;have hfill: Instr.fill (fun i=>some (i * se,se)) z.cells vs=some cells.toArray:=by have:=dc _ _ _ _ hfl;simpa using this
 simp only [execOp,hps',Instr.build,Sem.run_bind,T.run_zero,T.run_und,TE.run_sizeOf,Result.andThen_ok,hfill];rfl
end
theorem decode_high (s: ByteArray) (p: Nat) (h: p < s.size) (hb: ¬(s[p]'h).toNat < 128): 128<=(Utf8.decode s p).1:=by
 have hg:(s.get! p).toNat=(s[p]'h).toNat:=by
  have: s.get! p=s[p]'h:=by
   show s.data[p]! =s.data[p]'h
   exact getElem!_pos s.data p h
  rw [this]
 unfold Utf8.decode;simp only [Nat.add_zero,hg];rw [if_neg hb];have he: 128<=Utf8.runeError:=by decide
 repeat' split
 all_goals first
  | exact he
  |(rename_i h1;simp only [Bool.and_eq_true,decide_eq_true_eq] at h1;omega)
  |(rename_i h1;simp only [ge_iff_le] at h1;omega)
  | omega
def nby (u: UInt8): Bool:=decide (32<=u.toNat)&&decide (u.toNat<=126)
def nameB (s: ByteArray): Bool:=decide (1<=s.size)&&decide (s.size<=32)&&s.data.toList.all nby
end Go.Vk
namespace Go.Vk
def bareB (t: Tm) (n s l: Bool): Bool:=((n||decide (t.n=0))&&(s||decide (t.s=⟨#[]⟩)))&&(l||decide (((t.l.length: Nat): Int)=0))
def form1 (t: Tm): Bool:=(bareB t true false false&&decide (0<=t.n))&&decide (t.n < 100000)
def form2 (t: Tm): Bool:=(bareB t true false false&&decide ((-2147483647)<=t.n))&&decide (t.n<=2147483647)
def form3 (t: Tm): Bool:=bareB t false true false&&nameB t.s
def form4 (t: Tm): Bool:=bareB t false true false&&decide (((t.s.size: Nat): Int)<=255)
def form5 (t: Tm): Bool:=((bareB t false true true&&nameB t.s)&&decide (1<=((t.l.length: Nat): Int)))&&decide (((t.l.length: Nat): Int)<=16)
def form6 (t: Tm): Bool:=bareB t false false true&&decide (((t.l.length: Nat): Int)<=64)
def formB (k: Int) (t: Tm): Bool:=if k=1 then form1 t else if k=2 then form2 t else if k=3 then form3 t else if k=4 then form4 t else if k=5 then form5 t else form6 t
def badB (left deep: Int) (t: Tm): Bool:=decide (deep < 1)||(decide (left < 1)||(decide (t.kind < 1)||(decide (6 < t.kind)||!formB t.kind t)))
mutual
def cnt (left deep: Int): Tm->Int
 | .mk k n s l=>if badB left deep (.mk k n s l) then left+1 else cntL left deep 1 l
def cntL (left deep n: Int): List Tm->Int
 | []=>n
 | t::ts=>if left < n+cnt (left - n) (deep - 1) t then left+1 else cntL left deep (n+cnt (left - n) (deep - 1) t) ts
end
theorem cQ (left deep: Int) (t: Tm): cnt left deep t=if badB left deep t then left+1 else cntL left deep 1 t.l:=by cases t;rw [cnt];rfl
def chkAll (left: Int): List Tm->Bool
 | []=>true
 | t::ts=>if left < cnt left 600 t then false else chkAll (left - cnt left 600 t) ts
def isTm (t: Tm): Bool:=chkAll 4000 [t]
mutual
def dep: Tm->Nat
 | .mk _ _ _ l=>depL l+1
def depL: List Tm->Nat
 | []=>0
 | t::ts=>max (dep t) (depL ts)
end
theorem gi (t: Tm): dep t=depL t.l+1:=by cases t;simp [dep,Tm.l]
theorem depL_snoc: ∀(ts: List Tm) (t: Tm),depL (ts++ [t])=max (depL ts) (dep t)
 | [],t=>by simp [depL]
 | u::ts,t=>by rw [List.cons_append,depL,depL_snoc ts t,depL];omega
theorem szL_snoc: ∀(ts: List Tm) (t: Tm),Tm.szL (ts++ [t])=Tm.szL ts+t.sz
 | [],t=>by simp [Tm.szL]
 | u::ts,t=>by rw [List.cons_append,Tm.szL,szL_snoc ts t,Tm.szL];omega
theorem bY {ts: List Tm} {k: Nat} {u: Tm} (h: ts[k]? =some u): ts.take (k+1)=ts.take k++ [u]:=by
 rw [List.take_add_one,h];rfl
theorem bB: ∀(ts: List Tm) (k: Nat),Tm.szL (ts.take k)<=Tm.szL ts
 | [],k=>by simp
 | t::ts,0=>by simp [Tm.szL]
 | t::ts,k+1=>by have:=bB ts k;simp only [List.take_succ_cons,Tm.szL];omega
mutual
theorem dep_le_sz: ∀ t: Tm,dep t<=t.sz
 | .mk _ _ _ l=>by rw [dep,Tm.sz];have:=cN l;omega
theorem cN: ∀ ts: List Tm,depL ts<=Tm.szL ts
 | []=>by simp [depL,Tm.szL]
 | t::ts=>by rw [depL,Tm.szL];have:=dep_le_sz t;have:=cN ts;omega
end
def nodeR (t: Tm): Bool:=
 if t.kind=1 then ((decide (0<=t.n)&&decide (t.n < 100000))&&decide (t.s=⟨#[]⟩))&&decide (((t.l.length: Nat): Int)=0)
 else if t.kind=2 then ((decide ((-2147483647)<=t.n)&&decide (t.n<=2147483647))&&decide (t.s=⟨#[]⟩))&&decide (((t.l.length: Nat): Int)=0)
 else if t.kind=3 then (decide (t.n=0)&&nameB t.s)&&decide (((t.l.length: Nat): Int)=0)
 else if t.kind=4 then (decide (t.n=0)&&decide (((t.s.size: Nat): Int)<=255))&&decide (((t.l.length: Nat): Int)=0)
 else if t.kind=5 then ((decide (t.n=0)&&nameB t.s)&&decide (1<=((t.l.length: Nat): Int)))&&decide (((t.l.length: Nat): Int)<=16)
 else if t.kind=6 then (decide (t.n=0)&&decide (t.s=⟨#[]⟩))&&decide (((t.l.length: Nat): Int)<=64)
 else false
mutual
def nodesR: Tm->Bool
 | .mk k n s l=>nodeR (.mk k n s l)&&nodesRL l
def nodesRL: List Tm->Bool
 | []=>true
 | t::ts=>nodesR t&&nodesRL ts
end
theorem bF (t: Tm): nodesR t=(nodeR t&&nodesRL t.l):=by cases t;rw [nodesR];rfl
theorem bT: ∀ ts: List Tm,nodesRL ts=ts.all nodesR
 | []=>rfl
 | t::ts=>by rw [nodesRL,bT ts];rfl
def isR (t: Tm): Bool:=(decide (((t.sz: Nat): Int)<=4000)&&decide (((dep t: Nat): Int)<=600))&&nodesR t
mutual
def overR (n: Int): Tm->Bool
 | .mk k m _ l=>!(decide (k=1)&&(decide (m < 0)||decide (n<=m)))&&overRL n l
def overRL (n: Int): List Tm->Bool
 | []=>true
 | t::ts=>overR n t&&overRL n ts
end
theorem d8 (n: Int) (t: Tm): overR n t=(!(decide (t.kind=1)&&(decide (t.n < 0)||decide (n<=t.n)))&&overRL n t.l):=by cases t;rw [overR];rfl
theorem dO (n: Int): ∀ ts: List Tm,overRL n ts=ts.all (overR n)
 | []=>rfl
 | t::ts=>by rw [overRL,dO n ts];rfl
theorem eK {α: Type} {p: α->Bool} {xs: List α} {k: Nat} (h: ∀(j: Nat) (u: α),j < k->xs[j]? =some u->p u=true) (hk: xs.length<=k): xs.all p=true:=by
 refine List.all_eq_true.2 fun u hu=>?_;obtain⟨j,hj⟩:=List.getElem?_of_mem hu;exact h j u (by have:=(List.getElem?_eq_some_iff.1 hj).1;omega) hj
theorem all_not {α: Type} {p: α->Bool} {xs: List α} {k: Nat} {u: α} (hu: xs[k]? =some u) (hp: p u=false): xs.all p=false:=by
 rw [Bool.eq_false_iff];intro h;rw [List.all_eq_true.1 h u (List.mem_of_getElem? hu)] at hp
 cases hp
theorem all_step {α: Type} {p: α->Bool} {xs: List α} {k: Nat} {u: α} (h: ∀(j: Nat) (u: α),j < k->xs[j]? =some u->p u=true) (hu: xs[k]? =some u) (hp: p u=true): ∀(j: Nat) (u: α),j < k+1->xs[j]? =some u->p u=true:=by
 intro j v hj hv
 rcases Nat.lt_succ_iff_lt_or_eq.1 hj with h1 | h1
 ·exact h j v h1 hv
 ·subst h1;rw [hu] at hv;rw [<- Option.some.inj hv];exact hp
theorem any_none {α: Type} {p: α->Bool} {xs: List α} {k: Nat} (h: ∀(j: Nat) (u: α),j < k->xs[j]? =some u->p u=false) (hk: xs.length<=k): xs.any p=false:=by
 rw [Bool.eq_false_iff];intro hh;obtain⟨u,hu,hp⟩:=List.any_eq_true.1 hh;obtain⟨j,hj⟩:=List.getElem?_of_mem hu;rw [h j u (by have:=(List.getElem?_eq_some_iff.1 hj).1;omega) hj] at hp
 cases hp
theorem any_at {α: Type} {p: α->Bool} {xs: List α} {k: Nat} {u: α} (hu: xs[k]? =some u) (hp: p u=true): xs.any p=true:=List.any_eq_true.2 ⟨u,List.mem_of_getElem? hu,hp⟩
theorem none_step {α: Type} {p: α->Bool} {xs: List α} {k: Nat} {u: α} (h: ∀(j: Nat) (u: α),j < k->xs[j]? =some u->p u=false) (hu: xs[k]? =some u) (hp: p u=false): ∀(j: Nat) (u: α),j < k+1->xs[j]? =some u->p u=false:=by
 intro j v hj hv
 rcases Nat.lt_succ_iff_lt_or_eq.1 hj with h1 | h1
 ·exact h j v h1 hv
 ·subst h1;rw [hu] at hv;rw [<- Option.some.inj hv];exact hp
end Go.Vk
namespace Go.Vk.Tryz
theorem T1: Ty prog 1 (Go.TypeDesc.func #[] #[] false) 1 8 .nilFunc:=⟨underlying1,by kernel_rfl⟩
theorem T3: Ty prog 3 (Go.TypeDesc.int Go.IntKind.i64) 1 8 (.int .i64 0):=⟨underlying3,by kernel_rfl⟩
theorem T4: Ty prog 4 Go.TypeDesc.bool 1 1 (.bool false):=⟨underlying4,by kernel_rfl⟩
theorem T9: Ty prog 9 Go.TypeDesc.string 1 16 (.string ⟨#[]⟩):=⟨underlying9,by kernel_rfl⟩
theorem T22: Ty prog 22 (Go.TypeDesc.slice 71) 1 24 (.slice none 0 0):=⟨underlying22,by kernel_rfl⟩
theorem T26: Ty prog 26 (Go.TypeDesc.slice 3) 1 24 (.slice none 0 0):=⟨underlying26,by kernel_rfl⟩
theorem T35: Ty prog 35 (Go.TypeDesc.struct #[{ name:= "Tag",type:=3,offset:=0,embedded:=false,tag:= "",pkgPath:= "",byteOffset:=0 },{ name:= "N",type:=3,offset:=1,embedded:=false,tag:= "",pkgPath:= "",byteOffset:=8 },{ name:= "S",type:=9,offset:=2,embedded:=false,tag:= "",pkgPath:= "",byteOffset:=16 },{ name:= "One",type:=4,offset:=3,embedded:=false,tag:= "",pkgPath:= "",byteOffset:=32 }]) 4 40 (.agg #[(.int .i64 0),(.int .i64 0),(.string ⟨#[]⟩),(.bool false)]):=⟨underlying35,by kernel_rfl⟩
theorem T37: Ty prog 37 (Go.TypeDesc.slice 35) 1 24 (.slice none 0 0):=⟨underlying37,by kernel_rfl⟩
theorem T39: Ty prog 39 (Go.TypeDesc.slice 41) 1 24 (.slice none 0 0):=⟨underlying39,by kernel_rfl⟩
theorem T41: Ty prog 41 (Go.TypeDesc.struct #[{ name:= "Kind",type:=3,offset:=0,embedded:=false,tag:= "",pkgPath:= "",byteOffset:=0 },{ name:= "N",type:=3,offset:=1,embedded:=false,tag:= "",pkgPath:= "",byteOffset:=8 },{ name:= "S",type:=9,offset:=2,embedded:=false,tag:= "",pkgPath:= "",byteOffset:=16 },{ name:= "L",type:=39,offset:=3,embedded:=false,tag:= "",pkgPath:= "",byteOffset:=32 }]) 4 56 (.agg #[(.int .i64 0),(.int .i64 0),(.string ⟨#[]⟩),(.slice none 0 0)]):=⟨underlying41,by kernel_rfl⟩
theorem T44: Ty prog 44 (Go.TypeDesc.pointer 103) 1 8 (.pointer none):=⟨underlying44,by kernel_rfl⟩
theorem T68: Ty prog 68 (Go.TypeDesc.func #[35] #[4] false) 1 8 .nilFunc:=⟨underlying68,by kernel_rfl⟩
theorem T71: Ty prog 71 (Go.TypeDesc.struct #[{ name:= "Kind",type:=3,offset:=0,embedded:=false,tag:= "",pkgPath:= "",byteOffset:=0 },{ name:= "A",type:=3,offset:=1,embedded:=false,tag:= "",pkgPath:= "",byteOffset:=8 },{ name:= "B",type:=3,offset:=2,embedded:=false,tag:= "",pkgPath:= "",byteOffset:=16 },{ name:= "W",type:=35,offset:=3,embedded:=false,tag:= "",pkgPath:= "",byteOffset:=24 },{ name:= "X",type:=35,offset:=7,embedded:=false,tag:= "",pkgPath:= "",byteOffset:=64 },{ name:= "S",type:=9,offset:=11,embedded:=false,tag:= "",pkgPath:= "",byteOffset:=104 },{ name:= "T",type:=41,offset:=12,embedded:=false,tag:= "",pkgPath:= "",byteOffset:=120 },{ name:= "L",type:=37,offset:=16,embedded:=false,tag:= "",pkgPath:= "",byteOffset:=176 }]) 17 200 (.agg #[(.int .i64 0),(.int .i64 0),(.int .i64 0),(.int .i64 0),(.int .i64 0),(.string ⟨#[]⟩),(.bool false),(.int .i64 0),(.int .i64 0),(.string ⟨#[]⟩),(.bool false),(.string ⟨#[]⟩),(.int .i64 0),(.int .i64 0),(.string ⟨#[]⟩),(.slice none 0 0),(.slice none 0 0)]):=⟨underlying71,by kernel_rfl⟩
theorem T75: Ty prog 75 (Go.TypeDesc.pointer 133) 1 8 (.pointer none):=⟨underlying75,by kernel_rfl⟩
theorem T92: Ty prog 92 (Go.TypeDesc.struct #[{ name:= "h",type:=44,offset:=0,embedded:=false,tag:= "",pkgPath:= "riparian/heap",byteOffset:=0 },{ name:= "left",type:=3,offset:=1,embedded:=false,tag:= "",pkgPath:= "riparian/heap",byteOffset:=8 }]) 2 16 (.agg #[(.pointer none),(.int .i64 0)]):=⟨underlying92,by kernel_rfl⟩
theorem T100: Ty prog 100 (Go.TypeDesc.slice 105) 1 24 (.slice none 0 0):=⟨underlying100,by kernel_rfl⟩
theorem T101: Ty prog 101 (Go.TypeDesc.slice 4) 1 24 (.slice none 0 0):=⟨underlying101,by kernel_rfl⟩
theorem T103: Ty prog 103 (Go.TypeDesc.struct #[{ name:= "begins",type:=100,offset:=0,embedded:=false,tag:= "",pkgPath:= "riparian/heap",byteOffset:=0 },{ name:= "taken",type:=101,offset:=1,embedded:=false,tag:= "",pkgPath:= "riparian/heap",byteOffset:=24 },{ name:= "used",type:=3,offset:=2,embedded:=false,tag:= "",pkgPath:= "riparian/heap",byteOffset:=48 }]) 3 56 (.agg #[(.slice none 0 0),(.slice none 0 0),(.int .i64 0)]):=⟨underlying103,by kernel_rfl⟩
theorem T105: Ty prog 105 (Go.TypeDesc.interface #[("riparian/heap.size",50),("riparian/heap.words",38)]) 1 16 .nilIface:=⟨underlying105,by kernel_rfl⟩
theorem T110: Ty prog 110 (Go.TypeDesc.pointer 113) 1 8 (.pointer none):=⟨underlying110,by kernel_rfl⟩
theorem T113: Ty prog 113 (Go.TypeDesc.struct #[{ name:= "name",type:=9,offset:=0,embedded:=false,tag:= "",pkgPath:= "riparian/heap",byteOffset:=0 },{ name:= "args",type:=37,offset:=1,embedded:=false,tag:= "",pkgPath:= "riparian/heap",byteOffset:=16 }]) 2 40 (.agg #[(.string ⟨#[]⟩),(.slice none 0 0)]):=⟨underlying113,by kernel_rfl⟩
theorem T114: Ty prog 114 (Go.TypeDesc.pointer 116) 1 8 (.pointer none):=⟨underlying114,by kernel_rfl⟩
theorem T116: Ty prog 116 (Go.TypeDesc.struct #[{ name:= "to",type:=37,offset:=0,embedded:=false,tag:= "",pkgPath:= "riparian/heap",byteOffset:=0 },{ name:= "hooks",type:=26,offset:=1,embedded:=false,tag:= "",pkgPath:= "riparian/heap",byteOffset:=24 }]) 2 48 (.agg #[(.slice none 0 0),(.slice none 0 0)]):=⟨underlying116,by kernel_rfl⟩
theorem T117: Ty prog 117 (Go.TypeDesc.pointer 119) 1 8 (.pointer none):=⟨underlying117,by kernel_rfl⟩
theorem T119: Ty prog 119 (Go.TypeDesc.struct #[{ name:= "elems",type:=37,offset:=0,embedded:=false,tag:= "",pkgPath:= "riparian/heap",byteOffset:=0 }]) 1 24 (.agg #[(.slice none 0 0)]):=⟨underlying119,by kernel_rfl⟩
theorem T129: Ty prog 129 (Go.TypeDesc.func #[41,3] #[4] false) 1 8 .nilFunc:=⟨underlying129,by kernel_rfl⟩
theorem T131: Ty prog 131 (Go.TypeDesc.slice 140) 1 24 (.slice none 0 0):=⟨underlying131,by kernel_rfl⟩
theorem T133: Ty prog 133 (Go.TypeDesc.struct #[{ name:= "N",type:=3,offset:=0,embedded:=false,tag:= "",pkgPath:= "",byteOffset:=0 },{ name:= "Blocks",type:=131,offset:=1,embedded:=false,tag:= "",pkgPath:= "",byteOffset:=8 }]) 2 32 (.agg #[(.int .i64 0),(.slice none 0 0)]):=⟨underlying133,by kernel_rfl⟩
theorem T140: Ty prog 140 (Go.TypeDesc.struct #[{ name:= "At",type:=3,offset:=0,embedded:=false,tag:= "",pkgPath:= "",byteOffset:=0 },{ name:= "Kind",type:=3,offset:=1,embedded:=false,tag:= "",pkgPath:= "",byteOffset:=8 },{ name:= "Name",type:=9,offset:=2,embedded:=false,tag:= "",pkgPath:= "",byteOffset:=16 },{ name:= "Words",type:=37,offset:=3,embedded:=false,tag:= "",pkgPath:= "",byteOffset:=32 },{ name:= "Bound",type:=4,offset:=4,embedded:=false,tag:= "",pkgPath:= "",byteOffset:=56 },{ name:= "Hooks",type:=26,offset:=5,embedded:=false,tag:= "",pkgPath:= "",byteOffset:=64 }]) 6 88 (.agg #[(.int .i64 0),(.int .i64 0),(.string ⟨#[]⟩),(.slice none 0 0),(.bool false),(.slice none 0 0)]):=⟨underlying140,by kernel_rfl⟩
theorem T159: Ty prog 159 (Go.TypeDesc.map 3 4) 1 8 (.map none):=⟨underlying159,by kernel_rfl⟩
theorem T161: Ty prog 161 (Go.TypeDesc.struct #[{ name:= "h",type:=44,offset:=0,embedded:=false,tag:= "",pkgPath:= "riparian/heap",byteOffset:=0 },{ name:= "vars",type:=37,offset:=1,embedded:=false,tag:= "",pkgPath:= "riparian/heap",byteOffset:=8 },{ name:= "more",type:=159,offset:=2,embedded:=false,tag:= "",pkgPath:= "riparian/heap",byteOffset:=32 },{ name:= "made",type:=26,offset:=3,embedded:=false,tag:= "",pkgPath:= "riparian/heap",byteOffset:=40 }]) 4 64 (.agg #[(.pointer none),(.slice none 0 0),(.map none),(.slice none 0 0)]):=⟨underlying161,by kernel_rfl⟩
theorem T199: Ty prog 199 (Go.TypeDesc.func #[41] #[4] false) 1 8 .nilFunc:=⟨underlying199,by kernel_rfl⟩
theorem T200: Ty prog 200 (Go.TypeDesc.array 7 199) 7 56 (.agg #[.nilFunc,.nilFunc,.nilFunc,.nilFunc,.nilFunc,.nilFunc,.nilFunc]):=⟨underlying200,by kernel_rfl⟩
theorem T211: Ty prog 211 (Go.TypeDesc.func #[41,4,4,4] #[4] false) 1 8 .nilFunc:=⟨underlying211,by kernel_rfl⟩
theorem PL35 (w: World):((#[{ name:= "Tag",type:=3,offset:=0,embedded:=false,tag:= "",pkgPath:= "",byteOffset:=0 },{ name:= "N",type:=3,offset:=1,embedded:=false,tag:= "",pkgPath:= "",byteOffset:=8 },{ name:= "S",type:=9,offset:=2,embedded:=false,tag:= "",pkgPath:= "",byteOffset:=16 },{ name:= "One",type:=4,offset:=3,embedded:=false,tag:= "",pkgPath:= "",byteOffset:=32 }]: Array Field).mapM (fun f=>do pure (f.offset,← sizeOf f.type)): Sem (Array (Nat × Nat))).run prog w=.ok [(0,1),(1,1),(2,1),(3,1)].toArray w:=by simp [T3.run_sizeOf,T4.run_sizeOf,T9.run_sizeOf]
theorem PL41 (w: World):((#[{ name:= "Kind",type:=3,offset:=0,embedded:=false,tag:= "",pkgPath:= "",byteOffset:=0 },{ name:= "N",type:=3,offset:=1,embedded:=false,tag:= "",pkgPath:= "",byteOffset:=8 },{ name:= "S",type:=9,offset:=2,embedded:=false,tag:= "",pkgPath:= "",byteOffset:=16 },{ name:= "L",type:=39,offset:=3,embedded:=false,tag:= "",pkgPath:= "",byteOffset:=32 }]: Array Field).mapM (fun f=>do pure (f.offset,← sizeOf f.type)): Sem (Array (Nat × Nat))).run prog w=.ok [(0,1),(1,1),(2,1),(3,1)].toArray w:=by simp [T3.run_sizeOf,T39.run_sizeOf,T9.run_sizeOf]
theorem PL92 (w: World):((#[{ name:= "h",type:=44,offset:=0,embedded:=false,tag:= "",pkgPath:= "riparian/heap",byteOffset:=0 },{ name:= "left",type:=3,offset:=1,embedded:=false,tag:= "",pkgPath:= "riparian/heap",byteOffset:=8 }]: Array Field).mapM (fun f=>do pure (f.offset,← sizeOf f.type)): Sem (Array (Nat × Nat))).run prog w=.ok [(0,1),(1,1)].toArray w:=by simp [T3.run_sizeOf,T44.run_sizeOf]
theorem PL103 (w: World):((#[{ name:= "begins",type:=100,offset:=0,embedded:=false,tag:= "",pkgPath:= "riparian/heap",byteOffset:=0 },{ name:= "taken",type:=101,offset:=1,embedded:=false,tag:= "",pkgPath:= "riparian/heap",byteOffset:=24 },{ name:= "used",type:=3,offset:=2,embedded:=false,tag:= "",pkgPath:= "riparian/heap",byteOffset:=48 }]: Array Field).mapM (fun f=>do pure (f.offset,← sizeOf f.type)): Sem (Array (Nat × Nat))).run prog w=.ok [(0,1),(1,1),(2,1)].toArray w:=by simp [T100.run_sizeOf,T101.run_sizeOf,T3.run_sizeOf]
theorem PL113 (w: World):((#[{ name:= "name",type:=9,offset:=0,embedded:=false,tag:= "",pkgPath:= "riparian/heap",byteOffset:=0 },{ name:= "args",type:=37,offset:=1,embedded:=false,tag:= "",pkgPath:= "riparian/heap",byteOffset:=16 }]: Array Field).mapM (fun f=>do pure (f.offset,← sizeOf f.type)): Sem (Array (Nat × Nat))).run prog w=.ok [(0,1),(1,1)].toArray w:=by simp [T37.run_sizeOf,T9.run_sizeOf]
theorem PL116 (w: World):((#[{ name:= "to",type:=37,offset:=0,embedded:=false,tag:= "",pkgPath:= "riparian/heap",byteOffset:=0 },{ name:= "hooks",type:=26,offset:=1,embedded:=false,tag:= "",pkgPath:= "riparian/heap",byteOffset:=24 }]: Array Field).mapM (fun f=>do pure (f.offset,← sizeOf f.type)): Sem (Array (Nat × Nat))).run prog w=.ok [(0,1),(1,1)].toArray w:=by simp [T26.run_sizeOf,T37.run_sizeOf]
theorem PL119 (w: World):((#[{ name:= "elems",type:=37,offset:=0,embedded:=false,tag:= "",pkgPath:= "riparian/heap",byteOffset:=0 }]: Array Field).mapM (fun f=>do pure (f.offset,← sizeOf f.type)): Sem (Array (Nat × Nat))).run prog w=.ok [(0,1)].toArray w:=by simp [T37.run_sizeOf]
theorem PL133 (w: World):((#[{ name:= "N",type:=3,offset:=0,embedded:=false,tag:= "",pkgPath:= "",byteOffset:=0 },{ name:= "Blocks",type:=131,offset:=1,embedded:=false,tag:= "",pkgPath:= "",byteOffset:=8 }]: Array Field).mapM (fun f=>do pure (f.offset,← sizeOf f.type)): Sem (Array (Nat × Nat))).run prog w=.ok [(0,1),(1,1)].toArray w:=by simp [T131.run_sizeOf,T3.run_sizeOf]
theorem PL140 (w: World):((#[{ name:= "At",type:=3,offset:=0,embedded:=false,tag:= "",pkgPath:= "",byteOffset:=0 },{ name:= "Kind",type:=3,offset:=1,embedded:=false,tag:= "",pkgPath:= "",byteOffset:=8 },{ name:= "Name",type:=9,offset:=2,embedded:=false,tag:= "",pkgPath:= "",byteOffset:=16 },{ name:= "Words",type:=37,offset:=3,embedded:=false,tag:= "",pkgPath:= "",byteOffset:=32 },{ name:= "Bound",type:=4,offset:=4,embedded:=false,tag:= "",pkgPath:= "",byteOffset:=56 },{ name:= "Hooks",type:=26,offset:=5,embedded:=false,tag:= "",pkgPath:= "",byteOffset:=64 }]: Array Field).mapM (fun f=>do pure (f.offset,← sizeOf f.type)): Sem (Array (Nat × Nat))).run prog w=.ok [(0,1),(1,1),(2,1),(3,1),(4,1),(5,1)].toArray w:=by simp [T26.run_sizeOf,T3.run_sizeOf,T37.run_sizeOf,T4.run_sizeOf,T9.run_sizeOf]
theorem PL161 (w: World):((#[{ name:= "h",type:=44,offset:=0,embedded:=false,tag:= "",pkgPath:= "riparian/heap",byteOffset:=0 },{ name:= "vars",type:=37,offset:=1,embedded:=false,tag:= "",pkgPath:= "riparian/heap",byteOffset:=8 },{ name:= "more",type:=159,offset:=2,embedded:=false,tag:= "",pkgPath:= "riparian/heap",byteOffset:=32 },{ name:= "made",type:=26,offset:=3,embedded:=false,tag:= "",pkgPath:= "riparian/heap",byteOffset:=40 }]: Array Field).mapM (fun f=>do pure (f.offset,← sizeOf f.type)): Sem (Array (Nat × Nat))).run prog w=.ok [(0,1),(1,1),(2,1),(3,1)].toArray w:=by simp [T159.run_sizeOf,T26.run_sizeOf,T37.run_sizeOf,T44.run_sizeOf]
theorem mixed: Go.Proofs.Tryz.prog.follows .mixedOrders=true:=by kernel_rfl
end Go.Vk.Tryz
namespace Go.Vk
open Go.RowKit
def Dec (B: List Tm): Prop:= ∀(i: Nat) (t: Tm),B[i]? =some t->t.kind=1->0<=t.n/\t.n < i
def opn (B: List Tm) (v: Int): Bool:=decide ((B.getD v.toNat default).kind=0)
def followN (B: List Tm): Nat->Tm->Tm
 | 0,t=>t
 | k+1,t=>if t.kind=1/\(B.getD t.n.toNat default).kind≠0 then followN B k (B.getD t.n.toNat default) else t
def follow (B: List Tm) (t: Tm): Tm:=followN B (t.n.toNat+1) t
def Vis (n: Nat) (t: Tm): Prop:=t.kind=1->0<=t.n/\t.n < n
theorem followN_more {B: List Tm} (hd: Dec B): ∀(k k': Nat) (t: Tm),Vis B.length t->t.n.toNat < k->t.n.toNat < k'->followN B k t=followN B k' t:=by
 intro k
 induction k with
 | zero=>intro k' t _ h;omega
 | succ k ih =>
  intro k' t hv h h';obtain⟨k',rfl⟩: ∃ m,k'=m+1:=⟨k' - 1,by omega⟩;simp only [followN]
  split
  ·rename_i hc
   obtain⟨h0,h1⟩:=hv hc.1;have hlt: t.n.toNat < B.length:=by omega
   have hget: B[t.n.toNat]? =some (B.getD t.n.toNat default):=by simp [List.getD_eq_getElem?_getD,List.getElem?_eq_getElem hlt]
   by_cases h2:(B.getD t.n.toNat default).kind=1
   ·obtain⟨h3,h4⟩:=hd _ _ hget h2;refine ih k' _ (fun _=>⟨h3,by omega⟩) j0 j0
   ·have e: ∀ q,followN B q (B.getD t.n.toNat default)=B.getD t.n.toNat default:=by
     intro q
     cases q with
     | zero=>rfl
     | succ q=>simp only [followN];rw [if_neg (fun hh=>h2 hh.1)]
    rw [e,e]
  ·rfl
theorem follow_step {B: List Tm} (hd: Dec B) {t u: Tm} (hv: Vis B.length t) (hk: t.kind=1) (hu: B[t.n.toNat]? =some u) (hb: u.kind≠0): follow B t=follow B u/\(u.kind=1->0<=u.n/\u.n < t.n):=by
 obtain⟨h0,h1⟩:=hv hk;have hg: B.getD t.n.toNat default=u:=by simp [List.getD_eq_getElem?_getD,hu]
 have h2: u.kind=1->0<=u.n/\u.n < t.n:=fun h=>by have:=hd _ _ hu h;omega
 refine⟨?_,h2⟩;unfold follow;rw [show followN B (t.n.toNat+1) t=followN B t.n.toNat u from by simp only [followN];rw [hg,if_pos ⟨hk,hb⟩]]
 by_cases hu1: u.kind=1
 ·have:=h2 hu1;exact followN_more hd _ _ u (fun _=>⟨this.1,by omega⟩) j0 j0
 ·have e: ∀ q,followN B q u=u:=by
   intro q
   cases q with
   | zero=>rfl
   | succ q=>simp only [followN];rw [if_neg (fun hh=>hu1 hh.1)]
  rw [e,e]
def vm (t: Tm): Nat:=if t.kind=1 then t.n.toNat+1 else 0
theorem follow_down {B: List Tm} (hd: Dec B) {t u: Tm} (hv: Vis B.length t) (hk: t.kind=1) (hu: B[t.n.toNat]? =some u) (hb: opn B t.n=false): follow B u=follow B t/\Vis B.length u/\vm u < vm t:=by
 have hb': u.kind≠0:=by
  unfold opn at hb;rw [List.getD_eq_getElem?_getD,hu] at hb;simpa using hb
 obtain⟨h1,h2⟩:=follow_step hd hv hk hu hb';have:=hv hk;refine⟨h1.symm,fun h=>by have:=h2 h;omega,?_⟩;unfold vm;rw [if_pos hk]
 split
 ·rename_i h
  have:=h2 h;omega
 ·omega
end Go.Vk
namespace Go.Vk
open Go.RowKit
mutual
def eqT: Tm->Tm->Bool
 | .mk k n s l,.mk k' n' s' l'=>((decide (k=k')&&decide (n=n'))&&decide (s=s'))&&eqL l l'
def eqL: List Tm->List Tm->Bool
 | [], []=>true
 | t::ts,u::us=>eqT t u&&eqL ts us
 | [],_::_=>false
 | _::_, []=>false
end
mutual
def strB: Tm->Bool
 | .mk _ _ s l=>decide (s.size<=2000000)&&strBL l
def strBL: List Tm->Bool
 | []=>true
 | t::ts=>strB t&&strBL ts
end
theorem ex: ∀ ts: List Tm,strBL ts=ts.all strB
 | []=>rfl
 | t::ts=>by rw [strBL,ex ts];rfl
theorem strB_s {t: Tm} (h: strB t=true): t.s.size<=2000000:=by
 cases t
 rw [strB,Bool.and_eq_true] at h;exact of_decide_eq_true h.1
theorem strB_l {t: Tm} (h: strB t=true): strBL t.l=true:=by
 cases t
 rw [strB,Bool.and_eq_true] at h;exact h.2
theorem strBL_get {ts: List Tm} {j: Nat} {u: Tm} (h: strBL ts=true) (hu: ts[j]? =some u): strB u=true:=by
 rw [ex] at h;exact List.all_eq_true.1 h u (List.mem_of_getElem? hu)
theorem strB_get {t: Tm} {j: Nat} {u: Tm} (h: strB t=true) (hu: t.l[j]? =some u): strB u=true:=strBL_get (strB_l h) hu
theorem fH (t u: Tm): eqT t u=(((decide (t.kind=u.kind)&&decide (t.n=u.n))&&decide (t.s=u.s))&&eqL t.l u.l):=by cases t;cases u;rw [eqT];rfl
mutual
theorem dY: ∀ t u: Tm,eqT t u=true↔t=u
 | .mk k n s l,.mk k' n' s' l'=>by
  rw [eqT,Tm.mk.injEq];simp only [Bool.and_eq_true,decide_eq_true_eq,eqL_iff l l']
  constructor
  ·rintro⟨⟨⟨h1,h2⟩,h3⟩,h4⟩;exact⟨h1,h2,h3,h4⟩
  ·rintro⟨h1,h2,h3,h4⟩;exact⟨⟨⟨h1,h2⟩,h3⟩,h4⟩
theorem eqL_iff: ∀ ts us: List Tm,eqL ts us=true↔ts=us
 | [], []=>by simp [eqL]
 | [],_::_=>by simp [eqL]
 | _::_, []=>by simp [eqL]
 | t::ts,u::us=>by rw [eqL,Bool.and_eq_true,dY t u,eqL_iff ts us,List.cons.injEq]
end
theorem eqT_false {t u: Tm}: eqT t u=false↔t≠u:=by rw [Bool.eq_false_iff,Ne,Ne,dY]
instance: DecidableEq Tm:=fun t u=>if h: eqT t u=true then isTrue ((dY t u).1 h) else isFalse (fun e=>h ((dY t u).2 e))
theorem eqL_drop {ts us: List Tm} {k: Nat} {t u: Tm} (ht: ts[k]? =some t) (hu: us[k]? =some u): eqL (ts.drop k) (us.drop k)=(eqT t u&&eqL (ts.drop (k+1)) (us.drop (k+1))):=by
 have h1: k < ts.length:=(List.getElem?_eq_some_iff.1 ht).1;have h2: k < us.length:=(List.getElem?_eq_some_iff.1 hu).1;rw [List.drop_eq_getElem_cons h1,List.drop_eq_getElem_cons h2,eqL,(List.getElem?_eq_some_iff.1 ht).2,(List.getElem?_eq_some_iff.1 hu).2]
theorem eqL_end {ts us: List Tm} {k: Nat} (h1: ts.length<=k) (h2: us.length<=k): eqL (ts.drop k) (us.drop k)=true:=by rw [List.drop_of_length_le h1,List.drop_of_length_le h2,eqL]
def freeB (t: Tm): Bool:=((decide (t.kind=0)&&decide (t.n=0))&&decide (t.s=⟨#[]⟩))&&decide (((t.l.length: Nat): Int)=0)
def alkB (x y: Tm): Bool:=((decide (x.kind=y.kind)&&decide (x.n=y.n))&&decide (x.s=y.s))&&decide (((x.l.length: Nat): Int)=((y.l.length: Nat): Int))
mutual
def occ: Tm->List Int
 | .mk k n _ l=>if k=1 then [n] else occL l
def occL: List Tm->List Int
 | []=> []
 | t::ts=>occ t++occL ts
end
theorem go (t: Tm): occ t=if t.kind=1 then [t.n] else occL t.l:=by cases t;rw [occ];rfl
def RdI (w: World) (A: Option Addr) (c: Nat) (xs: List Int): Prop:=
 xs.length<=c/\xs.length * 8<=140737488355328/\∃(b off e: Nat) (cs: Array Value) (fz: Nat × Nat),(xs≠[]->A=some ⟨b,off,none⟩/\w.heap[b]? =some (.cells cs e fz))/\∀ j u,(ints xs)[j]? =some u->cs[off+j]? =some u
theorem RdI.len {w: World} {A: Option Addr} {c: Nat} {xs: List Int} (h: RdI w A c xs): xs.length<=c/\xs.length<=17592186044416:=by
 have h1:=h.1;have h2:=h.2.1;exact⟨h1,by omega⟩
theorem RdI.get {w: World} {A: Option Addr} {c: Nat} {xs: List Int} (h: RdI w A c xs) {j: Nat} (hj: j < xs.length) :
  ∃(x: Int) (b off e: Nat) (cs: Array Value) (fz: Nat × Nat),xs[j]? =some x/\A=some ⟨b,off,none⟩/\w.heap[b]? =some (.cells cs e fz)/\cs[off+j]? =some (.int .i64 x):=by
 obtain⟨_,_,b,off,e,cs,fz,h3,h4⟩:=h;obtain⟨h5,h6⟩:=h3 (fun e=>by subst e;simp at hj);exact⟨xs[j],b,off,e,cs,fz,List.getElem?_eq_getElem hj,h5,h6,h4 j _ (by simp [List.getElem?_eq_getElem hj])⟩
theorem RdI.keep {w w': World} {A: Option Addr} {c: Nat} {xs: List Int} (h: RdI w A c xs) (hk: ∀(k: Nat) (o: Obj),w.heap[k]? =some o->w'.heap[k]? =some o): RdI w' A c xs:=by
 obtain⟨h1,h2,b,off,e,cs,fz,h3,h4⟩:=h;exact⟨h1,h2,b,off,e,cs,fz,fun hn=>⟨(h3 hn).1,hk _ _ (h3 hn).2⟩,h4⟩
theorem RdI.nil (w: World): RdI w none 0 []:=⟨by simp,by simp,0,0,0,#[],(0,0),fun h=>absurd J h,fun j u h=>by simp at h⟩
theorem RdI.of_data {w: World} {H: PHeap} {L: List Ent} {A: Option Addr} {c: Nat} {xs: List Int} (hI: Inv w H L) (h: RowI H A c xs): RdI w A c xs:=by
 obtain⟨h1,h2,b,off,e,cs,fz,h3,h4⟩:=h;exact⟨by simpa using h1,by simpa using h2,b,off,e,cs,fz,fun hn=>⟨(h3 (by simpa using hn)).1,(hI.ext _ _ (h3 (by simpa using hn)).2).1⟩,h4⟩
theorem RdI.of_row {w: World} {H: PHeap} {L: List Ent} {A: Option Addr} {n c e: Nat} {en: Ent} {xs: List Int} (hI: Inv w H L) (h: Row (.slice A n c) en e 1 n (ints xs)) (i: Nat) (hi: L[i]? =some en) (hm: n * 8<=140737488355328): RdI w A c xs:=by
 have hn: xs.length=n:=by have:=h.1;simpa using this
 rcases h.2 with ⟨h1,h2,_⟩ |⟨b,cap,cur,h1,h2,h3,h4,h5,h6⟩
 ·injection h1 with ha hb hc
  subst ha hc h2;have: xs= []:=List.eq_nil_of_length_eq_zero hn;subst this;exact RdI.nil w
 ·injection h1 with ha hb hc
  subst ha hc h2;refine⟨by omega,by omega,b,0,e,cur,(0,0),fun _=>⟨rfl,hI.at_ i hi⟩,fun j u hj=>?_⟩;rw [Nat.zero_add];rw [<- h6,List.getElem?_take] at hj
  split at hj
  ·simpa using hj
  ·cases hj
section
variable {P: Program} {K: Act->World->Prop} {Q: Exit->Act->World->Prop} {D: List Deferred} {a: Act} {w: World} {N: Nat} {m: Env} {w0: World} {H0 H: PHeap} {L0 L: List Ent}
theorem eC {id: Nat} {l: List Oper} {E: Env} (k: ∀ a' w',Step w0 H0 L0 w' H L->Has D a' N E->Q .normal a' w') (h: wpList P l.toArray (fun e a' w'=>e=.normal/\Step w0 H0 L0 w' H L/\Has D a' N E) l a w):(Code.region id l.toArray false).wp P Q a w:=
 Code.wp_mono (fun e a' w' ⟨he,hw,hh⟩=>by subst he;exact k a' w' hw hh) (wp_region_lit h)
end
theorem Inv.one {w: World} {H: PHeap} {en: Ent} {L: List Ent} (h: Inv w H (en::L)): Inv w H [en]:=Inv.left (L:= [en]) (R:=L) h
theorem Row.cut {A: Option Addr} {n c e size k: Nat} {en: Ent} {xs: List Value} (h: Row (.slice A n c) en e size n xs) (hk: k<=n): Row (.slice A k c) en e size k (xs.take (k * size)):=by
 refine⟨by rw [List.length_take,h.1];exact Nat.min_eq_left (Nat.mul_le_mul_right _ hk),?_⟩
 rcases h.2 with ⟨h1,h2,h3⟩ |⟨b,cap,cur,h1,h2,h3,h4,h5,h6⟩
 ·injection h1 with ha hb hc
  subst ha hc h2;exact .inl ⟨by rw [show k=0 by omega],by omega,h3⟩
 ·injection h1 with ha hb hc
  subst ha hc;exact .inr ⟨b,c,cur,rfl,h2,by omega,h4,h5,by rw [<- h6,List.take_take,Nat.min_eq_left (Nat.mul_le_mul_right _ hk)]⟩
theorem any_contains {xs: List Int} {n: Int}:(xs.any (fun x=>decide (x=n)))=xs.contains n:=by
 rw [Bool.eq_iff_iff,List.any_eq_true,List.contains_iff_mem]
 constructor
 ·rintro⟨x,hx,h⟩;rw [<- of_decide_eq_true h];exact hx
 ·intro h;exact⟨n,h,decide_eq_true J⟩
end Go.Vk
namespace Go.Vk
open Go.RowKit
theorem ng_ret {Q: Exit->Act->World->Prop} {a: Act} {w: World} (h: Q .ret a w): Exit.noGoto Q .ret a w:=h
abbrev RFence (l: Nat): Fence:=Fence.wide.inRound l
theorem rowsIn_of {P: Program} {row: String} {args: Array Value} {w: World} {R: Value->World->Prop} {l n: Nat} (h: Rows P row args w R): RowsIn (RFence l) n P row args w R:=
 fun c cs _=>let ⟨v,w',r,s⟩:=h c cs;⟨v,w',r,stepsIn_wide.2 s⟩
theorem callsIn_of {P: Program} {f: FuncId} {args: Array Value} {w: World} {R: Ending->World->Prop} {l n: Nat} (h: Calls P f args w R): CallsIn (RFence l) n P f args w R:=
 CallsIn.inRound l (callsIn_wide.2 h)
section
variable {P: Program} {K: Act->World->Prop} {Q: Exit->Act->World->Prop} {a: Act} {w: World} {l n: Nat}
theorem oper_in {o: Oper} (hnd: ∀ c,o.op≠.defer c) (h: Oper.wp P o a w K Q): Oper.wpIn (RFence l) n P o a w K Q:=by
 refine⟨fun _ _=>trivial,?_⟩;have hs: o.semAt (RFence l).round a.eval=execOp a.eval o:=Oper.semAt_some l a.eval o hnd;rw [hs];unfold Oper.wp at h
 generalize (execOp a.eval o).run P w=r at *
 cases r with
 | ok nx w' =>
  cases nx with
  | value v=>exact h
  | skip=>exact h
  | defer d=>exact h
  | enter f args =>
   refine⟨fun hd=>(by cases hd),?_⟩;refine callsIn_of (Calls.mono h fun e w'' he=>?_)
   cases e <;> exact he
  | row r args=>exact ⟨fun hd=>(by cases hd),rowsIn_of h⟩
  | round _ _ _ _ _=>exact h.elim
  | _=>exact h.elim
 | halt x w'=>cases x <;> first | exact h | exact h.elim
def plainOp (o: Oper): Bool:=match o.op with
 | .defer _=>false
 | _=>true
theorem plainOp_nd {o: Oper} (h: plainOp o=true): ∀ c,o.op≠.defer c:=fun c e=>by
 unfold plainOp at h;rw [e] at h
 cases h
theorem wpOps_in {ops: Array Oper} (hp:(ops.toList.all plainOp)=true) (hQ: ¬ LetsOut Q): ∀(is: List Nat) (a: Act) (w: World),wpOps P ops Q is a w->wpOpsIn (RFence l) n P ops Q is a w:=by
 intro is
 induction is with
 | nil=>exact fun a w h=>h
 | cons i is ih =>
  intro a w h;simp only [wpOps,wpOpsIn] at h ⊢
  cases ho: ops[i]? with
  | none=>rw [ho] at h;exact ih a w h
  | some o =>
   rw [ho] at h;simp only at h ⊢;have hpo: plainOp o=true:=List.all_eq_true.1 hp o (Array.mem_toList_iff.2 (Array.mem_of_getElem? ho))
   by_cases hw: Region.wanted o (yielded ops a.tmps)=true
   ·rw [if_pos hw] at h ⊢
    rcases h with h |⟨_,h⟩
    ·exact oper_in (plainOp_nd hpo) (Oper.wp_mono (fun a' w'=>ih a' w') h)
    ·exact absurd h hQ
   ·rw [if_neg hw] at h ⊢;exact⟨fun _ _=>trivial,ih _ _ h⟩
theorem aY {id: Nat} {ops: List Oper} (hp:(ops.all plainOp)=true) (hQ: ¬ LetsOut Q) (h: wpList P ops.toArray Q ops a w):(Code.region id ops.toArray false).wpIn (RFence l) n P Q a w:=by
 refine wpIn_region (wpOps_in (by simpa using hp) hQ _ _ _ ?_);have:=wpOps_eq_wpList (P:=P) (ops:=ops.toArray) (Q:=Q) ops 0 (fun j=>by simp);rw [List.range_eq_range',show ops.toArray.size=ops.length by simp,this];exact h
end
section
variable {P: Program} {Q: Exit->Act->World->Prop} {D: List Deferred} {N: Nat} {E: Env} {w0: World} {H0 H: PHeap} {L0 L: List Ent} {Rl: PHeap->PHeap->Prop}
theorem any0 {ops: Array Oper} {listed: Array Bool} {a: Act} {w: World} {f: Nat} (hr: Region.ready .any ops listed= []) (h: Q .normal a w): wpAny P .any ops Q f listed a w:=by
 cases f with
 | zero=>exact ⟨hr,h⟩
 | succ f=>exact ⟨fun _=>h,fun i hi=>by rw [hr] at hi;cases hi⟩
theorem fw {ops: Array Oper} {K: Act->World->Prop} {i: Nat} {o: Oper} {a: Act} {w: World} (ho: ops[i]? =some o) (hg: o.guard=none) (h: Oper.wp P o a w K Q): wpOp P ops Q i K a w:=by
 unfold wpOp;rw [ho];simp only;rw [if_pos (cr hg)];exact .inl h
theorem any1 {ops: Array Oper} {listed: Array Bool} {a: Act} {w: World} {f i: Nat} {o: Oper} (hr: Region.ready .any ops listed= [i]) (ho: ops[i]? =some o) (hg: o.guard=none) (h: Oper.wp P o a w (wpAny P .any ops Q f (listed.setIfInBounds i true)) Q): wpAny P .any ops Q (f+1) listed a w:=
 ⟨fun e=>(by rw [hr] at e;cases e),fun j hj=>by
  rw [hr,List.mem_singleton] at hj;subst hj;exact fw ho hg h⟩
def okHead (l: List Oper) (tl: Nat): Bool:=
 okTail l tl&&(List.range l.length).all fun s=>!Nat.blt tl s||(match l[s]? with
  | some o=>o.after.toList.any fun e=>Region.binds .any e&&Nat.ble tl e.on&&Nat.blt e.on s
  | none=>false)
def headDone (n tl: Nat): Array Bool:=(List.replicate tl true++List.replicate (n - tl) false).toArray
theorem ch {l: List Oper} {listed: Array Bool} {i: Nat} (hsz: listed.size=l.length): i ∈ Region.ready .any l.toArray listed↔∃ o,l[i]? =some o/\lof listed i=false/\∀ e ∈ o.after,Region.binds .any e=true->lof listed e.on=true:=by
 unfold Region.ready;rw [List.mem_filter,List.mem_range];have hg: ∀ j,j < l.length->listed.getD j true=listed.getD j false:=by
  intro j hj;have: j < listed.size:=by omega
  simp [Array.getD,this]
 constructor
 ·rintro⟨h1,h2⟩;have hil: i < l.length:=by simpa using h1
  simp only [Bool.and_eq_true,Bool.not_eq_true'] at h2;refine⟨l[i],List.getElem?_eq_getElem hil,by unfold lof;rw [<- hg i hil];exact h2.1,fun e he hb=>?_⟩;have h3:=h2.2;have hget: l.toArray[i]? =some l[i]:=by simp [hil]
  rw [hget] at h3;simp only [Option.map_some,Option.getD_some] at h3;have h4:=Array.all_eq_true_iff_forall_mem.1 h3 e he;simp only [hb,Bool.not_true,Bool.false_or] at h4;exact h4
 ·rintro⟨o,h1,h2,h3⟩;have hil: i < l.length:=(List.getElem?_eq_some_iff.1 h1).1;refine⟨by simpa using hil,?_⟩;have hget: l.toArray[i]? =some o:=by simpa using h1
  rw [hget];simp only [Option.map_some,Option.getD_some,Bool.and_eq_true,Bool.not_eq_true'];refine⟨by rw [hg i hil];exact h2,Array.all_eq_true_iff_forall_mem.2 fun e he=>?_⟩
  cases hb: Region.binds .any e with
  | false=>rfl
  | true =>
   show (!true||listed.getD e.on false)=true
   rw [show listed.getD e.on false=true from h3 e he hb];rfl
theorem aX {n: Nat} {listed: Array Bool} {i: Nat} (hsz: listed.size=n) (hi: i < n): lof (listed.setIfInBounds i true)=upTo (lof listed) i:=by
 funext j
 unfold lof upTo
 cases hji: Nat.beq j i with
 | true =>
  have:=Nat.eq_of_beq_eq_true hji;subst this;have hj: j < listed.size:=by omega
  simp [Array.getD,hj]
 | false =>
  have hne: i≠j:=fun e=>by subst e;rw [Nat.beq_refl] at hji;cases hji
  simp only [cond_false];simp only [Array.getD_eq_getD_getElem?,Array.getElem?_setIfInBounds_ne hne]
theorem aU (b: Nat->Bool) (i j: Nat): upTo b i j=true↔j=i\/b j=true:=by
 unfold upTo
 cases hji: Nat.beq j i with
 | true=>have:=Nat.eq_of_beq_eq_true hji;simp [this]
 | false =>
  have hne: j≠i:=fun e=>by subst e;rw [Nat.beq_refl] at hji;cases hji
  simp [hne]
theorem headDone_eq {n tl: Nat} {listed: Array Bool} (hsz: listed.size=n) (hn: tl<=n) (h1: ∀ i,i < tl->lof listed i=true) (h2: ∀ i,tl<=i->lof listed i=false): listed=headDone n tl:=by
 apply Array.ext
 ·simp [headDone];omega
 ·intro i hi hi';have e1: lof listed i=listed[i]:=by unfold lof;simp [Array.getD,hi]
  by_cases h: i < tl
  ·rw [<- e1,h1 i h];simp [headDone,List.getElem_append,h]
  ·rw [<- e1,h2 i j0];simp [headDone,List.getElem_append,h]
theorem ek (hRl: Rel Rl) {l: List Oper} {Φ: List Fact} (hok: Okd l N E) (hm: Monos Rl Φ) (tl: Nat) (htl: tl < l.length) (hh: okHead l tl=true)
  (hq: ∀(i: Nat) (o: Oper),i < tl->l[i]? =some o->∃ φ,Φ[i]? =some φ/\Quiet Rl P l Φ D N E w0 H0 L0 H L Q o φ)
  (hfin: ∀ f a w,DInv Rl l Φ D N E w0 H0 L0 H L (fun j=>decide (j < tl)) a w->wpAny P .any l.toArray Q (f+(l.length - tl)) (headDone l.length tl) a w) :
  ∀(fuel: Nat) (listed: Array Bool) (a: Act) (w: World),listed.size=l.length->unl l.length (lof listed)<=fuel->(∀ s o,lof listed s=true->l[s]? =some o->∀ e ∈ o.after,Region.binds .any e=true->lof listed e.on=true)->(∀ s,tl<=s->lof listed s=false)->
   DInv Rl l Φ D N E w0 H0 L0 H L (lof listed) a w->wpAny P .any l.toArray Q fuel listed a w:=by
 have hh1: okTail l tl=true:=by
  unfold okHead at hh;rw [Bool.and_eq_true] at hh;exact hh.1
 have hh2: ∀ s o,tl < s->l[s]? =some o->∃ e ∈ o.after,Region.binds .any e=true/\tl<=e.on/\e.on < s:=by
  intro s o hs ho;unfold okHead at hh;rw [Bool.and_eq_true] at hh;have h:=List.all_eq_true.1 hh.2 s (List.mem_range.2 (List.getElem?_eq_some_iff.1 ho).1);rw [ho,show Nat.blt tl s=true from by simpa [Nat.blt_eq] using hs] at h;simp only [Bool.not_true,Bool.false_or] at h;obtain⟨e,he,h⟩:=List.any_eq_true.1 h;simp only [Bool.and_eq_true] at h;exact⟨e,Array.mem_toList_iff.1 he,h.1.1,Nat.le_of_ble_eq_true h.1.2,by simpa [Nat.blt_eq] using h.2⟩
 have hless: ∀(b: Nat->Bool) i,i < l.length->b i=false->unl l.length (upTo b i) < unl l.length b:=by
  intro b i hi hb;refine cU (x:=i) (fun y hy=>?_) (List.mem_range.2 hi) (by simp [hb]) (by simp [upTo]);simp only [Bool.not_eq_true'] at hy ⊢
  cases hby: b y with
  | false=>rfl
  | true =>
   have:=(aU b i y).2 (.inr hby);rw [this] at hy
   cases hy
 have hfull: ∀(listed: Array Bool),listed.size=l.length->(∀ i,i < tl->lof listed i=true)->(∀ s,tl<=s->lof listed s=false)->l.length - tl<=unl l.length (lof listed):=by
  intro listed hsz h1 h2;unfold unl;have hs:(List.range l.length).countP (fun i=>!lof listed i)=(List.range l.length).countP (fun i=>decide (tl<=i)):=by
   refine List.countP_congr fun i _=>?_
   by_cases h: i < tl
   ·rw [h1 i h];simp;omega
   ·rw [h2 i j0];simp;omega
  rw [hs];have key: ∀ m,m - tl<=(List.range m).countP (fun i=>decide (tl<=i)):=by
   intro m
   induction m with
   | zero=>simp
   | succ m ih =>
    rw [List.range_succ,List.countP_append,List.countP_singleton]
    by_cases h: tl<=m
    ·simp [h];omega
    ·simp [h];omega
  exact key l.length
 intro fuel
 induction fuel with
 | zero =>
  intro listed a w hsz hun hc ht hI
  exfalso
  have:=hless (lof listed) tl htl (ht tl (Nat.le_refl _));omega
 | succ fuel ih =>
  intro listed a w hsz hun hc ht hI
  by_cases hdone: ∀ i,i < tl->lof listed i=true
  ·have heq: listed=headDone l.length tl:=headDone_eq hsz (Nat.le_of_lt htl) hdone ht;have hle:=hfull listed hsz hdone ht;have hb: lof listed=fun j=>decide (j < tl):=by
    funext j
    by_cases h: j < tl
    ·rw [hdone j h];simp [h]
    ·rw [ht j j0];simp [h]
   rw [hb] at hI;have:=hfin (fuel+1 - (l.length - tl)) a w hI;rw [show fuel+1 - (l.length - tl)+(l.length - tl)=fuel+1 by omega] at this;rw [heq];exact this
  ·have hall2: ∀(o: Oper),l[tl]? =some o->(∀ e ∈ o.after,Region.binds .any e=true->lof listed e.on=true)->∀ k,k<=tl->∀ j,j < tl->tl - j<=k->lof listed j=true:=by
    intro o ho hdeps k
    induction k with
    | zero=>intro _ j hj hk;omega
    | succ k ihk =>
     intro hk' j hj hk;have h1:=List.all_eq_true.1 hh1 j (List.mem_range.2 hj);obtain⟨s,hs,h2⟩:=List.any_eq_true.1 h1;rw [List.mem_range] at hs;simp only [Bool.and_eq_true] at h2;have hjs: j < s:=Nat.le_of_ble_eq_true h2.1;have h3:=h2.2
     cases hls: l[s]? with
     | none=>rw [hls] at h3;cases h3
     | some os =>
      rw [hls] at h3;obtain⟨e,he,hej⟩:=List.any_eq_true.1 h3;have he:=Array.mem_toList_iff.1 he;simp only [Bool.and_eq_true] at hej;have hej':=Nat.eq_of_beq_eq_true hej.2;rw [<- hej']
      by_cases hsi: s=tl
      ·subst hsi;rw [ho] at hls;obtain rfl:=Option.some.inj hls;exact hdeps e he hej.1
      ·exact hc s os (ihk j0 s j0 j0) hls e he hej.1
   refine⟨fun hr=>?_,fun i hi=>?_⟩
   ·exfalso
    refine hdone fun i hit=>hok.acy (lof listed) (fun i o ho hdeps=>?_) i j0
    cases hb: lof listed i with
    | true=>rfl
    | false =>
     have: i ∈ Region.ready .any l.toArray listed:=(ch hsz).2 ⟨o,ho,hb,hdeps⟩;rw [hr] at this
     cases this
   ·obtain⟨o,ho,hbi,hdeps⟩:=(ch hsz).1 hi;have hil: i < l.length:=(List.getElem?_eq_some_iff.1 ho).1;have hit: i < tl:=by
     rcases Nat.lt_trichotomy i tl with h | h | h
     ·exact h
     ·subst h;exact absurd (fun j hj=>hall2 o ho hdeps i (Nat.le_refl _) j hj j0) hdone
     ·obtain⟨e,he,hb,h1,h2⟩:=hh2 i o h ho;have:=hdeps e he hb;rw [ht e.on h1] at this
      cases this
    obtain⟨φ,hφ,hqi⟩:=hq i o hit ho;refine cD hRl hok hm ho hφ hqi hI hdeps fun a' w' hI'=>?_;refine ih _ a' w' (by simpa using hsz) ?_ ?_ ?_ ?_
    ·rw [aX hsz hil];have:=hless (lof listed) i hil hbi;omega
    ·rw [aX hsz hil];intro s o' hs ho' e he hb
     rcases (aU _ _ _).1 hs with rfl | hs
     ·rw [ho] at ho';obtain rfl:=Option.some.inj ho';exact(aU _ _ _).2 (.inr (hdeps e he hb))
     ·exact(aU _ _ _).2 (.inr (hc s o' hs ho' e he hb))
    ·intro s hs;rw [aX hsz hil]
     cases hb: upTo (lof listed) i s with
     | false=>rfl
     | true =>
      rcases (aU _ _ _).1 hb with h1 | h1
      ·omega
      ·rw [ht s hs] at h1;cases h1
    ·rw [aX hsz hil];exact hI'
theorem eL (hRl: Rel Rl) {l: List Oper} {a: Act} {w: World} (tl: Nat) (Φ: List Fact) (hok: okDraw l N E=true) (htl: Nat.blt tl l.length=true) (hh: okHead l tl=true) (hm: Monos Rl Φ) (hS: Step w0 H0 L0 w H L) (ha: Has D a N E) (hq: Quiets (Quiet Rl P l Φ D N E w0 H0 L0 H L Q) (l.take tl) Φ)
  (k: ∀ f a w H',Rl H H'->Step w0 H0 L0 w H' L->Has D a N E->(∀(i: Nat) (o: Oper) (d: Nat) (φ: Fact),(l.take tl)[i]? =some o->o.dst=some d->Φ[i]? =some φ->∃ v,a.tmps[d]? =some v/\φ H' v)->wpAny P .any l.toArray Q (f+(l.length - tl)) (headDone l.length tl) a w) :
  wpAny P .any l.toArray Q l.toArray.size (Array.replicate l.toArray.size false) a { w with drawn:=w.drawn+1 }:=by
 have htl': tl < l.length:=by simpa [Nat.blt_eq] using htl
 have h0: lof (Array.replicate l.toArray.size false)=fun _=>false:=by
  funext i
  unfold lof;simp only [Array.getD_eq_getD_getElem?,Array.getElem?_replicate]
  split <;> rfl
 refine ek hRl (Φ:=Φ) (cH hok) hm tl htl' hh (fun i o hi ho=>hq.get i o (by rw [List.getElem?_take,if_pos hi];exact ho)) ?_ _ _ a _ j1 (by rw [h0];exact fu _ _) ?_ ?_ ?_
 ·intro f a w hI;obtain⟨ha,H',hle,hS,hf⟩:=hI;refine k f a w H' hle hS ha fun i o d φ ho hd hφ=>?_;rw [List.getElem?_take] at ho
  split at ho
  ·rename_i hi
   exact hf i o d φ (by simpa using hi) ho hd hφ
  ·cases ho
 ·rw [h0];intro s o h
  cases h
 ·intro s _;rw [h0]
 ·rw [h0];exact⟨ha,H,hRl.refl _,db hS,fun i o d φ h=>by cases h⟩
theorem c_draw_head (hRl: Rel Rl) {l: List Oper} {id: Nat} {a: Act} {w: World} (tl: Nat) (Φ: List Fact) (hP: P.follows .mixedOrders=true) (hok: okDraw l N E=true) (htl: Nat.blt tl l.length=true) (hh: okHead l tl=true) (hm: Monos Rl Φ) (hS: Step w0 H0 L0 w H L) (ha: Has D a N E) (hq: Quiets (Quiet Rl P l Φ D N E w0 H0 L0 H L Q) (l.take tl) Φ)
  (k: ∀ f a w H',Rl H H'->Step w0 H0 L0 w H' L->Has D a N E->(∀(i: Nat) (o: Oper) (d: Nat) (φ: Fact),(l.take tl)[i]? =some o->o.dst=some d->Φ[i]? =some φ->∃ v,a.tmps[d]? =some v/\φ H' v)->wpAny P .any l.toArray Q (f+(l.length - tl)) (headDone l.length tl) a w) :
  (Code.region id l.toArray true).wp P Q a w:=wp_region_any hP (eL hRl tl Φ hok htl hh hm hS ha hq k)
inductive QuietsI (C: Nat->Oper->Fact->Prop): Nat->List Oper->List Fact->Prop
 | nil {i: Nat}: QuietsI C i [] []
 | cons {i: Nat} {o: Oper} {φ: Fact} {l: List Oper} {Φ: List Fact} (h: C i o φ) (hs: QuietsI C (i+1) l Φ): QuietsI C i (o::l) (φ::Φ)
theorem QuietsI.get {C: Nat->Oper->Fact->Prop} {l: List Oper} {Φ: List Fact} {q: Nat} (h: QuietsI C q l Φ): ∀(i: Nat) (o: Oper),l[i]? =some o->∃ φ,Φ[i]? =some φ/\C (q+i) o φ:=by
 induction h with
 | nil=>intro i o h;simp at h
 | cons hc hs ih =>
  intro i o hi
  cases i with
  | zero =>
   obtain rfl: _=o:=by simpa using hi
   exact⟨_,rfl,hc⟩
  | succ i =>
   obtain⟨φ,h1,h2⟩:=ih i o (by simpa using hi);exact⟨φ,by simpa using h1,by rw [show ∀ q: Nat,q+(i+1)=q+1+i from fun q=>by omega];exact h2⟩
def floats (oe: Oper) (i: Nat): Bool:=!(oe.after.toList.any fun e=>Region.binds .any e&&Nat.beq e.on i)
theorem draw_mid (hRl: Rel Rl) {l: List Oper} {Φ: List Fact} (hok: Okd l N E) (hm: Monos Rl Φ) (tl: Nat) (htl: tl+1=l.length) (hot: okTail l tl=true) (e: Nat) (oe: Oper) (hoe: l[e]? =some oe) (hel: e < tl) (hed: oe.dst=none) (heg: oe.guard=none) (C: List Ent->Prop)
  (hq: ∀(i: Nat) (o: Oper),i < tl->i≠e->l[i]? =some o->∃ φ,Φ[i]? =some φ/\Quiet Rl P l Φ D N E w0 H0 L0 H L Q o φ/\(floats oe i=true->∀ L1,C L1->Quiet Rl P l Φ D N E w0 H0 L0 H L1 Q o φ))
  (heff: ∀ a w H',Rl H H'->Step w0 H0 L0 w H' L->Has D a N E->Dep l Φ oe a H'->Oper.wp P oe a w (fun a' w'=> ∃ H'' L1,Rl H' H''/\C L1/\Step w0 H0 L0 w' H'' L1/\a'.defers=D) Q)
  (hfin: ∀ b a w L1,C L1->(∀ i,i < tl->b i=true)->DInv Rl l Φ D N E w0 H0 L0 H L1 b a w->wpOp P l.toArray Q tl (fun a w=>Q .normal a w) a w) :
  ∀(fuel: Nat) (listed: Array Bool) (a: Act) (w: World),listed.size=l.length->unl l.length (lof listed)<=fuel->(∀ s o,lof listed s=true->l[s]? =some o->∀ e ∈ o.after,Region.binds .any e=true->lof listed e.on=true)->lof listed tl=false->
   ((lof listed e=false/\DInv Rl l Φ D N E w0 H0 L0 H L (lof listed) a w)\/(lof listed e=true/\∃ L1,C L1/\DInv Rl l Φ D N E w0 H0 L0 H L1 (lof listed) a w))->wpAny P .any l.toArray Q fuel listed a w:=by
 have hless: ∀(b: Nat->Bool) i,i < l.length->b i=false->unl l.length (upTo b i) < unl l.length b:=by
  intro b i hi hb;refine cU (x:=i) (fun y hy=>?_) (List.mem_range.2 hi) (by simp [hb]) (by simp [upTo]);simp only [Bool.not_eq_true'] at hy ⊢
  cases hby: b y with
  | false=>rfl
  | true =>
   have:=(aU b i y).2 (.inr hby);rw [this] at hy
   cases hy
 intro fuel
 induction fuel with
 | zero =>
  intro listed a w hsz hun hc ht hI
  exfalso
  have:=hless (lof listed) tl j0 ht;omega
 | succ fuel ih =>
  intro listed a w hsz hun hc ht hI;refine⟨fun hr=>?_,fun i hi=>?_⟩
  ·exfalso
   have hall: ∀ i,i < l.length->lof listed i=true:=hok.acy (lof listed) fun i o ho hdeps=>by
    cases hb: lof listed i with
    | true=>rfl
    | false =>
     have: i ∈ Region.ready .any l.toArray listed:=(ch hsz).2 ⟨o,ho,hb,hdeps⟩;rw [hr] at this
     cases this
   rw [hall tl j0] at ht
   cases ht
  ·obtain⟨o,ho,hbi,hdeps⟩:=(ch hsz).1 hi;have hil: i < l.length:=(List.getElem?_eq_some_iff.1 ho).1;have hcl: ∀ s o',upTo (lof listed) i s=true->l[s]? =some o'->∀ e ∈ o'.after,Region.binds .any e=true->upTo (lof listed) i e.on=true:=by
    intro s o' hs ho' e he hb
    rcases (aU _ _ _).1 hs with rfl | hs
    ·rw [ho] at ho';obtain rfl:=Option.some.inj ho';exact(aU _ _ _).2 (.inr (hdeps e he hb))
    ·exact(aU _ _ _).2 (.inr (hc s o' hs ho' e he hb))
   have htt: i≠tl->upTo (lof listed) i tl=false:=by
    intro hne
    cases hb: upTo (lof listed) i tl with
    | false=>rfl
    | true =>
     rcases (aU _ _ _).1 hb with h1 | h1
     ·exact absurd h1.symm hne
     ·rw [ht] at h1;cases h1
   by_cases hit: i < tl
   ·have hdec: unl l.length (lof (listed.setIfInBounds i true))<=fuel:=by
     rw [aX hsz hil];have:=hless (lof listed) i hil hbi;omega
    by_cases hie: i=e
    ·
     subst hie;rw [hoe] at ho;obtain rfl:=Option.some.inj ho
     rcases hI with ⟨_,hI⟩ |⟨h1,_⟩
     ·obtain⟨ha,H1,hle,hS,hf⟩:=hI;have hdep: Dep l Φ oe a H1:=⟨fun j hj oj hoj d hdj ψ hψ=>by
       obtain⟨e',he',hej⟩:=List.any_eq_true.1 hj;have he':=Array.mem_toList_iff.1 he';simp only [Bool.and_eq_true] at hej;have: lof listed j=true:=by rw [<- Nat.eq_of_beq_eq_true hej.2];exact hdeps e' he' hej.1
       exact hf j oj d ψ this hoj hdj hψ⟩
      refine fw (by simpa using hoe) heg (Oper.wp_mono (fun a' w' hh=>?_) (gu (heff a w H1 hle hS ha hdep)));obtain⟨⟨H2,L1,hle2,hC,hS2,hdf⟩,v,htm⟩:=hh;rw [hed] at htm;have htm: a'.tmps=a.tmps:=htm;refine ih _ a' w' (by simpa using hsz) hdec ?_ ?_ (.inr ⟨?_,L1,hC,?_⟩)
      ·rw [aX hsz hil];exact hcl
      ·rw [aX hsz hil];exact htt j0
      ·rw [aX hsz hil];exact(aU _ _ _).2 (.inl J)
      ·rw [aX hsz hil];refine⟨⟨by rw [htm];exact ha.size,hdf,fun k v hk=>by rw [htm];exact ha.get k v hk⟩,H2,hRl.trans hle hle2,hS2,fun j oj d ψ hbj hoj hdj hψ=>?_⟩
       rcases (aU _ _ _).1 hbj with rfl | hbj
       ·rw [hoe] at hoj;obtain rfl:=Option.some.inj hoj;rw [hed] at hdj
        cases hdj
       ·obtain⟨v,h1,h2⟩:=hf j oj d ψ hbj hoj hdj hψ;exact⟨v,by rw [htm];exact h1,hm ψ (List.mem_of_getElem? hψ) _ _ _ hle2 h2⟩
     ·rw [hbi] at h1;cases h1
    ·obtain⟨φ,hφ,hq0,hq1⟩:=hq i o hit hie ho;have hne: upTo (lof listed) i e=lof listed e:=by
      cases hb: lof listed e with
      | true=>exact (aU _ _ _).2 (.inr hb)
      | false =>
       cases hb2: upTo (lof listed) i e with
       | false=>rfl
       | true =>
        rcases (aU _ _ _).1 hb2 with h1 | h1
        ·exact absurd h1.symm hie
        ·rw [hb] at h1;cases h1
     rcases hI with ⟨he0,hI⟩ |⟨he1,L1,hC,hI⟩
     ·refine cD hRl hok hm ho hφ hq0 hI hdeps fun a' w' hI'=>?_;refine ih _ a' w' (by simpa using hsz) hdec ?_ ?_ (.inl ⟨?_,?_⟩)
      ·rw [aX hsz hil];exact hcl
      ·rw [aX hsz hil];exact htt j0
      ·rw [aX hsz hil,hne];exact he0
      ·rw [aX hsz hil];exact hI'
     ·have hfl: floats oe i=true:=by
       unfold floats
       cases hb: oe.after.toList.any fun e=>Region.binds .any e&&Nat.beq e.on i with
       | false=>rfl
       | true =>
        obtain⟨e',he',hej⟩:=List.any_eq_true.1 hb;simp only [Bool.and_eq_true] at hej;have:=hc e oe he1 hoe e' (Array.mem_toList_iff.1 he') hej.1;rw [Nat.eq_of_beq_eq_true hej.2,hbi] at this
        cases this
      refine cD hRl hok hm ho hφ (hq1 hfl L1 hC) hI hdeps fun a' w' hI'=>?_;refine ih _ a' w' (by simpa using hsz) hdec ?_ ?_ (.inr ⟨?_,L1,hC,?_⟩)
      ·rw [aX hsz hil];exact hcl
      ·rw [aX hsz hil];exact htt j0
      ·rw [aX hsz hil,hne];exact he1
      ·rw [aX hsz hil];exact hI'
   ·
    have hie: i=tl:=by omega
    subst hie;have hall2: ∀ k,k<=i->∀ j,j < i->i - j<=k->lof listed j=true:=by
     intro k
     induction k with
     | zero=>intro _ j hj hk;omega
     | succ k ihk =>
      intro hk' j hj hk;have h1:=List.all_eq_true.1 hot j (List.mem_range.2 hj);obtain⟨s,hs,h2⟩:=List.any_eq_true.1 h1;rw [List.mem_range] at hs;simp only [Bool.and_eq_true] at h2;have hjs: j < s:=Nat.le_of_ble_eq_true h2.1;have h3:=h2.2
      cases hls: l[s]? with
      | none=>rw [hls] at h3;cases h3
      | some os =>
       rw [hls] at h3;obtain⟨e,he,hej⟩:=List.any_eq_true.1 h3;have he:=Array.mem_toList_iff.1 he;simp only [Bool.and_eq_true] at hej;have hej':=Nat.eq_of_beq_eq_true hej.2;rw [<- hej']
       by_cases hsi: s=i
       ·subst hsi;rw [ho] at hls;obtain rfl:=Option.some.inj hls;exact hdeps e he hej.1
       ·exact hc s os (ihk j0 s j0 j0) hls e he hej.1
    have hfull: ∀ j,j < i->lof listed j=true:=fun j hj=>hall2 i (Nat.le_refl _) j hj j0
    rcases hI with ⟨he0,_⟩ |⟨_,L1,hC,hI⟩
    ·rw [hfull e hel] at he0;cases he0
    refine wpOp_mono (fun a' w' hQ=>?_) (hfin (lof listed) a w L1 hC hfull hI);refine any0 ?_ hQ
    cases hr: Region.ready .any l.toArray (listed.setIfInBounds i true) with
    | nil=>rfl
    | cons j r =>
     have hj: j ∈ Region.ready .any l.toArray (listed.setIfInBounds i true):=by rw [hr];exact List.mem_cons_self
     obtain⟨o',h1',h2',_⟩:=(ch (by simpa using hsz)).1 hj;have hjl: j < l.length:=(List.getElem?_eq_some_iff.1 h1').1;rw [aX hsz hil] at h2';have h3: upTo (lof listed) i j=true:=(aU _ _ _).2 (by
      by_cases hji: j=i
      ·exact .inl hji
      ·exact .inr (hfull j j0))
     rw [h3] at h2'
     cases h2'
theorem c_draw_mid (hRl: Rel Rl) {l: List Oper} {id: Nat} {a: Act} {w: World} {ot: Oper} (pre: List Oper) (hl: l=pre++ [ot]) (e: Nat) (oe: Oper) (Φ: List Fact) (C: List Ent->Prop) (hP: P.follows .mixedOrders=true) (hok: okDraw l N E=true) (hot: okTail l pre.length=true) (hg: ot.guard=none) (hoe: pre[e]? =some oe) (hed: oe.dst=none) (heg: oe.guard=none) (hm: Monos Rl Φ) (hS: Step w0 H0 L0 w H L) (ha: Has D a N E)
  (heff: ∀ a w H',Rl H H'->Step w0 H0 L0 w H' L->Has D a N E->Dep l Φ oe a H'->Oper.wp P oe a w (fun a' w'=> ∃ H'' L1,Rl H' H''/\C L1/\Step w0 H0 L0 w' H'' L1/\a'.defers=D) Q)
  (k: ∀ a w H' L1,C L1->Rl H H'->Step w0 H0 L0 w H' L1->Has D a N E->(∀(i: Nat) (o: Oper) (d: Nat) (φ: Fact),pre[i]? =some o->o.dst=some d->Φ[i]? =some φ->∃ v,a.tmps[d]? =some v/\φ H' v)->Oper.wp P ot a w (fun a w=>Q .normal a w) Q)
  (hq: QuietsI (fun i o φ=>i≠e->Quiet Rl P l Φ D N E w0 H0 L0 H L Q o φ/\(floats oe i=true->∀ L1,C L1->Quiet Rl P l Φ D N E w0 H0 L0 H L1 Q o φ)) 0 pre Φ) :
  (Code.region id l.toArray true).wp P Q a w:=by
 refine wp_region_any hP ?_;have hlen: pre.length+1=l.length:=by rw [hl];simp
 have hpre: ∀ i,i < pre.length->l[i]? =pre[i]?:=fun i hi=>by rw [hl,List.getElem?_append_left hi]
 have hel: e < pre.length:=(List.getElem?_eq_some_iff.1 hoe).1;have h0: lof (Array.replicate l.toArray.size false)=fun _=>false:=by
  funext i
  unfold lof;simp only [Array.getD_eq_getD_getElem?,Array.getElem?_replicate]
  split <;> rfl
 refine draw_mid hRl (Φ:=Φ) (cH hok) hm pre.length hlen hot e oe (by rw [hpre e hel];exact hoe) hel hed heg C (fun i o hi hie ho=>?_) heff ?_ _ _ a _ j1 (by rw [h0];exact fu _ _) ?_ ?_ (.inl ⟨by rw [h0],?_⟩)
 ·obtain⟨φ,h1,h2⟩:=hq.get i o (by rw [<- hpre i hi];exact ho);rw [Nat.zero_add] at h2;exact⟨φ,h1,h2 hie⟩
 ·intro b a w L1 hC hb hI;obtain⟨ha,H',hle,hS,hf⟩:=hI;refine fw (o:=ot) (by rw [hl];simp) hg (k a w H' L1 hC hle hS ha fun i o d φ ho hd hφ=>?_);have hi:=(List.getElem?_eq_some_iff.1 ho).1;exact hf i o d φ (hb i hi) (by rw [hpre i hi];exact ho) hd hφ
 ·rw [h0];intro s o h
  cases h
 ·rw [h0]
 ·rw [h0];exact⟨ha,H,hRl.refl _,db hS,fun i o d φ h=>by cases h⟩
end
end Go.Vk
namespace Go.Vk
open Go.RowKit
abbrev markOf (r: Nat): Deferred:= { target:=.collected r,args:= #[] }
abbrev openBlk (r: Nat): Ent:=(some r,.deferred (some []))
section
variable {w0 w w': World} {H0 H: PHeap} {L0 L: List Ent}
theorem Step.putObj (h: Step w0 H0 L0 w H L) (i: Nat) {b: Nat} {o: Obj} (hi: L[i]? =some (some b,o)) (o': Obj): Step w0 H0 L0 (w.putObj b o') H (L.set i (some b,o')):=by
 have hlt: b < w.heap.size:=(Array.getElem?_eq_some_iff.1 (h.inv.at_ i hi)).1;exact h.write i hi o' J J J World.putObj_size (World.putObj_heap_same hlt) fun k hk=>World.putObj_heap_other hk
end
section
variable {P: Program} {R: Ending->World->Prop} {a: Act} {w: World} {N: Nat} {m: Env} {w0: World} {H0 H: PHeap} {L0 L: List Ent}
theorem enterM {f: FuncId} {fn: Func} {c: Code} (vs: List Value) (hf: P.funcs[f]? =some fn) (hb: fn.body=some c) (hN: fn.ntmps=N) (hle: Nat.ble vs.length N=true) (k: ∀ a,Has [] a N (args 0 vs)->c.wp P (bodyPostM Fence.wide 0 P fn R) a w): Calls P f vs.toArray w R:=by
 refine callsIn_wide.1 (callsIn_of_wp_marks (F:=Fence.wide) (n:=0) hf hb trivial (wpIn_wide.2 (k _ ⟨?_,rfl,fun j v h=>?_⟩)))
 ·have:=Nat.le_of_ble_eq_true hle;simp [hN];omega
 ·obtain⟨_,h2⟩:=fM vs 0 j v h;rw [Nat.sub_zero] at h2;have hj: j < vs.length:=(List.getElem?_eq_some_iff.1 h2).1;rw [Array.getElem?_append_left (by simpa using hj)];simpa using h2
theorem leaves_marks {fn: Func} {t: Nat} {v: Value} {tmps: Array Value} (hr: fn.results= #[.tmp t]) (hv: tmps[t]? =some v): ∀(rs: List Nat) (w: World) (L: List Ent),Step w0 H0 L0 w H (rs.map openBlk++L)->(∀ w',Step w0 H0 L0 w' H L->R (.returned v) w')->LeavesInM Fence.wide 0 P fn tmps R (rs.map markOf) .returning w
 | [],w,L,hS,k=>⟨v,by rw [results_tmp hr];simp [Array.getD_eq_getD_getElem?,hv],k w (by simpa using hS)⟩
 | r::rs,w,L,hS,k=>by
  have hb: w.heap[r]? =some (.deferred (some [])):=hS.inv.at_ 0 J;have hS':=(hS.putObj 0 (b:=r) J (.deferred none)).drop;exact⟨by simp,.inl ⟨r,w.putObj r (.deferred none),rfl,run_takeDeferred hb,leaves_marks hr hv rs _ L hS' k⟩⟩
theorem retM1 {fn: Func} {t: Nat} {v: Value} {rs: List Nat} (hr: fn.results= #[.tmp t]) (hS: Step w0 H0 L0 w H (rs.map openBlk++L)) (ha: Has (rs.map markOf) a N m) (hv: lk m t=some v) (k: ∀ w',Step w0 H0 L0 w' H L->R (.returned v) w'): bodyPostM Fence.wide 0 P fn R .ret a w:=by
 show LeavesInM Fence.wide 0 P fn a.tmps R a.defers .returning w
 rw [ha.dfr];exact leaves_marks hr (ha.get t v hv) rs w L hS k
end
section
variable {P: Program} {Q: Exit->Act->World->Prop} {a: Act} {w: World} {N: Nat} {m: Env} {D: List Deferred} {w0: World} {H0 H: PHeap} {L0 L: List Ent}
theorem o_yield {d: Nat} {ty: TypeId} {pos: String} {aft: Array Edge} {gd: Option (Nat × Bool)} {x: Operand} {xs: List Operand} {ts: Array TypeId} {vs: List Value} {l: Nat} {K: Act->World->Prop} {R: World->Prop} (hg: ev m x=some (.func (.yield l) #[] #[])) (hvs: evs m xs=some vs) (ha: Has D a N m) (hd: Nat.blt d N=true)
  (hy: YieldAt Fence.wide 0 P l vs.toArray w fun e W'=>e=.returned (.bool true)/\R W') (k: ∀ a' w',Has D a' N ((d,.bool true)::m)->R w'->K a' w') :
  Oper.wpIn Fence.wide 0 P ⟨some d,.call { callee:=.value x,args:=xs.toArray,argTypes:=ts },ty,pos,aft,gd⟩ a w K Q:=by
 refine⟨fun _ _=>trivial,?_⟩;obtain⟨f,tmps,assign,body,h1,h2⟩:=hy;have hr:(Oper.semAt Fence.wide.round a.eval ⟨some d,.call { callee:=.value x,args:=xs.toArray,argTypes:=ts },ty,pos,aft,gd⟩).run P w=.ok (.round l f tmps assign body) w:=by
  show (execOp a.eval ⟨some d,.call { callee:=.value x,args:=xs.toArray,argTypes:=ts },ty,pos,aft,gd⟩).run P w=_
  have h3:=ha.evs hvs;simp [execOp,resolve,ha.ev hg,Deferred.ofValue,invoke,h3,h1]
 rw [hr];refine⟨fun h=>(by cases h),h2.mono ?_⟩;rintro e W' ⟨rfl,hR⟩;exact k _ _ (ha.put hd _) hR
theorem regionW {id: Nat} {l: List Oper} (h: wpListIn Fence.wide 0 P l.toArray Q l a w):(Code.region id l.toArray false).wp P Q a w:=wpIn_wide.1 (wpIn_region_lit h)
theorem linY {ops: Array Oper} {rest: List Oper} {o: Oper} (hg: o.guard=none) (h: Oper.wpIn Fence.wide 0 P o a w (wpListIn Fence.wide 0 P ops Q rest) Q): wpListIn Fence.wide 0 P ops Q (o::rest) a w:=by
 simp only [wpListIn];rw [if_pos (cr hg)];exact h
theorem operW {o: Oper} {K: Act->World->Prop} (h: Oper.wp P o a w K Q): Oper.wpIn Fence.wide 0 P o a w K Q:=by
 refine⟨fun _ _=>trivial,?_⟩;have hs: o.semAt Fence.wide.round a.eval=execOp a.eval o:=Oper.semAt_none a.eval o;rw [hs];unfold Oper.wp at h
 generalize (execOp a.eval o).run P w=r at *
 cases r with
 | ok nx w' =>
  cases nx with
  | value v=>exact h
  | skip=>exact h
  | defer d=>exact h
  | enter f args =>
   refine⟨fun hd=>(by cases hd),?_⟩;refine callsIn_wide.2 (Calls.mono h fun e w'' he=>?_)
   cases e <;> exact he
  | row r args=>exact ⟨fun hd=>(by cases hd),fun c cs _=>let ⟨v,w',r,s⟩:=h c cs;⟨v,w',r,stepsIn_wide.2 s⟩⟩
  | round _ _ _ _ _=>exact h.elim
  | _=>exact h.elim
 | halt x w'=>cases x <;> first | exact h | exact h.elim
theorem linW {ops: Array Oper} {rest: List Oper} {o: Oper} (hg: o.guard=none) (h: Oper.wp P o a w (wpListIn Fence.wide 0 P ops Q rest) Q): wpListIn Fence.wide 0 P ops Q (o::rest) a w:=linY hg (operW h)
end
end Go.Vk
namespace Go.Vk
open Go.RowKit
def SetM (P: Program) (k e: TypeId) (en: Ent) (b n: Nat) (seen: List Int): Prop:=
 ∃ o D,en=(some b,o)/\(∀ W: World,W.heap[b]? =some o->W.ownsMap (H:=Unit) P k (plainElem P e) b n D)/\Maps.IsMap D/\∀ q: Int,D.atKey (.int .i64 q) (.lit (.bool false))=.lit (.bool (seen.contains q))
theorem plainElem_bool_inv {P: Program} {e: TypeId} (he: P.underlying e=some .bool) {v: Value} {x: Bool} {ps: List MemPlace} (h: plainElem (H:=Unit) P e v=some (.lit (.bool x),ps)): v=.bool x:=by
 unfold plainElem at h;rw [he] at h
 cases v <;> simp at h
 rw [h.1]
section
variable {P: Program} {K: Act->World->Prop} {Q: Exit->Act->World->Prop} {a: Act} {w: World} {N: Nat} {m: Env} {D: List Deferred} {d: Nat} {ty: TypeId} {pos: String} {aft: Array Edge} {g: Option (Nat × Bool)}
variable {w0: World} {H0 H: PHeap} {L0 L: List Ent}
theorem o_makeMap {t k e: TypeId} (hS: Step w0 H0 L0 w H L) (ha: Has D a N m) (hd: Nat.blt d N=true)
  (kk: ∀ b en a' w',SetM P k e en b 0 []->Step w0 H0 L0 w' H (en::L)->Has D a' N ((d,.map (some b))::m)->K a' w') :
  Oper.wp P ⟨some d,.makeMap t none,ty,pos,aft,g⟩ a w K Q:=by
 refine aM (v:=.map (some w.heap.size)) (w':=w.alloc (.map #[] 0)) J ha hd fun a' h=>kk w.heap.size _ a' _ ?_ (hS.alloc (.map #[] 0)) h;refine⟨.map #[] 0,.map [],rfl,fun W hW=>?_,Maps.isMap_empty,fun q=>rfl⟩;obtain⟨es,clock,hb,F,hs,hD⟩:=World.ownsMap_made (H:=Unit) w P k (plainElem P e);have hb':=heap_alloc_new w (.map #[] 0);rw [hb'] at hb;injection hb with hb
 injection hb with h1 h2
 subst h1 h2;exact⟨_,_,hW,F,hs,hD⟩
theorem f5 {q: Int} (h: -9223372036854775808<=q/\q<=9223372036854775807):(Lit.int .i64 q).wf=true:=by
 have h1: IntKind.i64.min= -9223372036854775808:=by decide
 have h2: IntKind.i64.max=9223372036854775807:=by decide
 simp [Lit.wf,h1,h2];omega
theorem o_lookupB {x y: Operand} {t k e b n i: Nat} {seen: List Int} {q: Int} {en: Ent} (ht: P.underlying t=some (.map k e)) (hk: P.underlying k=some (.int .i64)) (T: Ty P e .bool 1 1 (.bool false)) (hS: Step w0 H0 L0 w H L) (hi: L[i]? =some en) (hM: SetM P k e en b n seen) (ha: Has D a N m) (hx: ev m x=some (.map (some b))) (hy: ev m y=some (.int .i64 q)) (hq: -9223372036854775808<=q/\q<=9223372036854775807) (hd: Nat.blt d N=true)
  (kk: ∀ a',Has D a' N ((d,.bool (seen.contains q))::m)->K a' w) :
  Oper.wp P ⟨some d,.lookup t x y false,ty,pos,aft,g⟩ a w K Q:=by
 obtain⟨o,Dm,rfl,hown,hmap,hat⟩:=hM;have hb: w.heap[b]? =some o:=hS.inv.at_ i hi;obtain⟨v,ps,hrun,hv⟩:=(hown w hb).lookup (Maps.int_keyed hk) ht (T.run_zero w) (plainElem_bool T.und false) (Maps.keyOf_int_mk hk (f5 hq));rw [hat] at hv;obtain rfl:=plainElem_bool_inv T.und hv;refine aM ?_ ha hd kk;simp [execOp,ha.ev hx,ha.ev hy,hrun]
theorem o_mapUpdB {x y z: Operand} {t k e b n: Nat} {seen: List Int} {q: Int} {en: Ent} (ht: P.underlying t=some (.map k e)) (hk: P.underlying k=some (.int .i64)) (T: Ty P e .bool 1 1 (.bool false)) (hS: Step w0 H0 L0 w H (en::L)) (hM: SetM P k e en b n seen) (ha: Has D a N m) (hx: ev m x=some (.map (some b))) (hy: ev m y=some (.int .i64 q)) (hz: ev m z=some (.bool true)) (hq: -9223372036854775808<=q/\q<=9223372036854775807) (hn: n < maxLen)
  (kk: ∀ en' a' w',SetM P k e en' b (n+1) (q::seen)->Step w0 H0 L0 w' H (en'::L)->Has D a' N m->K a' w') :
  Oper.wp P ⟨none,.mapUpdate t x y z,ty,pos,aft,g⟩ a w K Q:=by
 obtain⟨o,Dm,rfl,hown,hmap,hat⟩:=hM;have hb: w.heap[b]? =some o:=hS.inv.at_ 0 J;obtain⟨w',hrun,hown',hgr⟩:=(hown w hb).update (Maps.int_keyed hk) ht hn (Maps.keyOf_int_mk hk (f5 hq)) (plainElem_bool T.und true);have hown2:=hown';obtain⟨es,clock,hb',F,hs,hD⟩:=hown';have hS':=hS.regrow (o:=.map es clock) hgr hb' (.inl J);have hM': SetM P k e (some b,.map es clock) b (n+1) (q::seen):=by
  refine⟨_,_,rfl,fun W hW=>⟨es,clock,hW,F,hs,hD⟩,hmap.put _ _,fun r=>?_⟩
  by_cases hr: r=q
  ·subst hr;rw [Maps.atKey_put_same hmap (by simp [WideAt.IsKeyLit])];simp
  ·rw [Maps.atKey_put_other (fun e=>hr (by injection e)),hat];simp [List.contains_cons,hr]
 unfold Oper.wp;simp [execOp,ha.ev hx,ha.ev hy,ha.ev hz,hrun];exact kk _ _ _ hM' hS' (ha.put_none _)
end
end Go.Vk
namespace Go.Vk
def vfree (B: List Tm) (stop: Int->Bool): Nat->List Tm->List Int->List Int->Bool × List Int
 | 0,_,_,out=>(false,out)
 | _+1, [],_,out=>(false,out)
 | f+1,t::ts,seen,out =>
  if t.kind=1 then
   if seen.contains t.n then vfree B stop f ts seen out
   else if opn B t.n then
    if stop t.n then (true,out++ [t.n]) else vfree B stop f ts (t.n::seen) (out++ [t.n])
   else vfree B stop f (B.getD t.n.toNat default::ts) (t.n::seen) out
  else vfree B stop f (t.l++ts) seen out
def unseenN (seen: List Int): Nat->List Tm->Nat
 | _, []=>0
 | i,t::ts=>(if seen.contains (i: Int) then 0 else t.sz)+unseenN seen (i+1) ts
def vmeas (B: List Tm) (todo: List Tm) (seen: List Int): Nat:=Tm.szL todo+unseenN seen 0 B
theorem dQ (q: Int) (seen: List Int): ∀(ts: List Tm) (i: Nat),unseenN (q::seen) i ts<=unseenN seen i ts
 | [],i=>Nat.le_refl _
 | t::ts,i=>by
  rw [unseenN,unseenN];have:=dQ q seen ts (i+1);have h:(if (q::seen).contains (i: Int) then 0 else t.sz)<=(if seen.contains (i: Int) then 0 else t.sz):=by
   by_cases h1: seen.contains (i: Int)=true
   ·rw [if_pos h1,if_pos (by rw [List.contains_cons,h1,Bool.or_true])];exact Nat.le_refl _
   ·rw [if_neg h1];split <;> omega
  omega
theorem dl (seen: List Int): ∀(ts: List Tm) (i j: Nat) (u: Tm),ts[j]? =some u->seen.contains ((i+j: Nat): Int)=false->unseenN (((i+j: Nat): Int)::seen) i ts+u.sz<=unseenN seen i ts
 | [],i,j,u,h,_=>by simp at h
 | t::ts,i,0,u,h,hs=>by
  obtain rfl: t=u:=by simpa using h
  rw [Nat.add_zero] at hs ⊢;rw [unseenN,unseenN,hs];have:=dQ (i: Int) seen ts (i+1);simp;omega
 | t::ts,i,j+1,u,h,hs=>by
  have h1:=dl seen ts (i+1) j u (by simpa using h) (by rw [show i+1+j=i+(j+1) by omega];exact hs);rw [show i+1+j=i+(j+1) by omega] at h1;rw [unseenN,unseenN];have h2:(if (((i+(j+1): Nat): Int)::seen).contains (i: Int) then 0 else t.sz)=(if seen.contains (i: Int) then 0 else t.sz):=by
   rw [List.contains_cons];have:((i: Int) ==((i+(j+1): Nat): Int))=false:=by
    rw [beq_eq_false_iff_ne];omega
   rw [this,Bool.false_or]
  omega
theorem szL_append (xs ys: List Tm): Tm.szL (xs++ys)=Tm.szL xs+Tm.szL ys:=by
 induction xs with
 | nil=>simp [Tm.szL]
 | cons t ts ih=>rw [List.cons_append,Tm.szL,Tm.szL,ih];omega
def AllV (n: Nat) (ts: List Tm): Prop:= ∀ t ∈ ts,overR (n: Int) t=true
theorem cg {n: Nat} {t: Tm} (h: overR (n: Int) t=true) (hk: t.kind=1): 0<=t.n/\t.n < n:=by
 rw [d8,hk] at h;simp only [decide_true,Bool.true_and,Bool.and_eq_true,Bool.not_eq_true',Bool.or_eq_false_iff,decide_eq_false_iff_not] at h;omega
theorem overR_sub {n: Int} {t: Tm} (h: overR n t=true): ∀ u ∈ t.l,overR n u=true:=by
 rw [d8,dO,Bool.and_eq_true] at h;exact fun u hu=>List.all_eq_true.1 h.2 u hu
theorem AllV.tail {n: Nat} {t: Tm} {ts: List Tm} (h: AllV n (t::ts)): AllV n ts:=fun u hu=>h u (List.mem_cons_of_mem _ hu)
theorem AllV.sub {n: Nat} {t: Tm} {ts: List Tm} (h: AllV n (t::ts)): AllV n (t.l++ts):=fun u hu=>by
 rcases List.mem_append.1 hu with hu | hu
 ·exact overR_sub (h t List.mem_cons_self) u hu
 ·exact h u (List.mem_cons_of_mem _ hu)
theorem AllV.bind {B: List Tm} {t: Tm} {ts: List Tm} (hB: AllV B.length B) (h: AllV B.length (t::ts)) (hk: t.kind=1): AllV B.length (B.getD t.n.toNat default::ts):=fun u hu=>by
 rcases List.mem_cons.1 hu with rfl | hu
 ·have:=cg (h t List.mem_cons_self) hk;rw [List.getD_eq_getElem?_getD,List.getElem?_eq_getElem (show t.n.toNat < B.length by omega)];exact hB _ (List.getElem_mem _)
 ·exact h u (List.mem_cons_of_mem _ hu)
theorem vmeas_seen (B: List Tm) (t: Tm) (ts: List Tm) (seen: List Int): vmeas B ts seen+1<=vmeas B (t::ts) seen:=by
 unfold vmeas;rw [Tm.szL];have:=t.sz_pos;omega
theorem vmeas_sub (B: List Tm) (t: Tm) (ts: List Tm) (seen: List Int): vmeas B (t.l++ts) seen+1<=vmeas B (t::ts) seen:=by
 unfold vmeas;rw [Tm.szL,szL_append,t.sz_eq];omega
theorem vmeas_meet {B: List Tm} {t: Tm} {ts: List Tm} {seen: List Int} (hv: 0<=t.n/\t.n < B.length) (hs: seen.contains t.n=false): vmeas B (B.getD t.n.toNat default::ts) (t.n::seen)+1<=vmeas B (t::ts) seen:=by
 unfold vmeas;have hlt: t.n.toNat < B.length:=by omega
 have e:((0+t.n.toNat: Nat): Int)=t.n:=by omega
 have h:=dl seen B 0 t.n.toNat (B[t.n.toNat]) (List.getElem?_eq_getElem hlt) (by rw [e];exact hs);rw [e] at h;rw [Tm.szL,Tm.szL,List.getD_eq_getElem?_getD,List.getElem?_eq_getElem hlt];have:=t.sz_pos;simp only [Option.getD_some];omega
theorem vmeas_open {B: List Tm} {t: Tm} {ts: List Tm} {seen: List Int}: vmeas B ts (t.n::seen)+1<=vmeas B (t::ts) seen:=by
 unfold vmeas;have:=dQ t.n seen B 0;have:=t.sz_pos;rw [Tm.szL];omega
theorem vfree_more {B: List Tm} (hB: AllV B.length B) (stop: Int->Bool): ∀(f f': Nat) (todo: List Tm) (seen out: List Int),AllV B.length todo->vmeas B todo seen < f->vmeas B todo seen < f'->vfree B stop f todo seen out=vfree B stop f' todo seen out:=by
 intro f
 induction f with
 | zero=>intro f' todo seen out _ h;omega
 | succ f ih =>
  intro f' todo seen out hv h h';obtain⟨f',rfl⟩: ∃ m,f'=m+1:=⟨f' - 1,by omega⟩
  cases todo with
  | nil=>rfl
  | cons t ts =>
   simp only [vfree]
   split
   ·rename_i hk
    have hr:=cg (hv t List.mem_cons_self) hk
    split
    ·have:=vmeas_seen B t ts seen;exact ih _ _ _ _ hv.tail j0 j0
    ·rename_i hs
     have hs': seen.contains t.n=false:=by simpa using hs
     split
     ·split
      ·rfl
      ·have:=vmeas_open (B:=B) (t:=t) (ts:=ts) (seen:=seen);exact ih _ _ _ _ hv.tail j0 j0
     ·have:=vmeas_meet (ts:=ts) hr hs';exact ih _ _ _ _ (hB.bind hv hk) j0 j0
   ·have:=vmeas_sub B t ts seen;exact ih _ _ _ _ hv.sub j0 j0
def VF (B: List Tm) (stop: Int->Bool) (todo: List Tm) (seen out: List Int): Bool × List Int:=vfree B stop (vmeas B todo seen+1) todo seen out
section
variable {B: List Tm} {stop: Int->Bool} {t: Tm} {ts: List Tm} {seen out: List Int}
theorem VF_open (hB: AllV B.length B) (hv: AllV B.length (t::ts)) (hk: t.kind=1) (hs: seen.contains t.n=false) (ho: opn B t.n=true) (hp: stop t.n=false): VF B stop (t::ts) seen out=VF B stop ts (t.n::seen) (out++ [t.n]):=by
 have:=vmeas_open (B:=B) (t:=t) (ts:=ts) (seen:=seen);unfold VF;rw [show vfree B stop (vmeas B (t::ts) seen+1) (t::ts) seen out=vfree B stop (vmeas B (t::ts) seen) ts (t.n::seen) (out++ [t.n]) from by simp only [vfree];rw [if_pos hk,if_neg (by rw [hs];simp),if_pos ho,if_neg (by rw [hp];simp)]];exact vfree_more hB stop _ _ _ _ _ hv.tail j0 j0
theorem VF_bound (hB: AllV B.length B) (hv: AllV B.length (t::ts)) (hk: t.kind=1) (hs: seen.contains t.n=false) (ho: opn B t.n=false): VF B stop (t::ts) seen out=VF B stop (B.getD t.n.toNat default::ts) (t.n::seen) out:=by
 have:=vmeas_meet (ts:=ts) (cg (hv t List.mem_cons_self) hk) hs;unfold VF;rw [show vfree B stop (vmeas B (t::ts) seen+1) (t::ts) seen out=vfree B stop (vmeas B (t::ts) seen) (B.getD t.n.toNat default::ts) (t.n::seen) out from by simp only [vfree];rw [if_pos hk,if_neg (by rw [hs];simp),if_neg (by rw [ho];simp)]];exact vfree_more hB stop _ _ _ _ _ (hB.bind hv hk) j0 j0
end
theorem AllV.head {n: Nat} {t: Tm} {ts: List Tm} (h: AllV n (t::ts)): overR (n: Int) t=true:=h t List.mem_cons_self
theorem getD_some {B: List Tm} {i: Nat} {u: Tm} (h: B[i]? =some u): B.getD i default=u:=by rw [List.getD_eq_getElem?_getD,h];rfl
theorem VF_bound' {B: List Tm} {stop: Int->Bool} {t u: Tm} {ts: List Tm} {seen out: List Int} (hB: AllV B.length B) (hv: AllV B.length (t::ts)) (hk: t.kind=1) (hs: seen.contains t.n=false) (ho: opn B t.n=false) (hu: B[t.n.toNat]? =some u): VF B stop (t::ts) seen out=VF B stop (u::ts) (t.n::seen) out:=by
 rw [VF_bound hB hv hk hs ho,getD_some hu]
theorem Row.cap {A: Option Addr} {n c e size: Nat} {en: Ent} {xs: List Value} (h: Row (.slice A n c) en e size n xs): n<=c:=by
 rcases h.2 with ⟨h1,h2,h3⟩ |⟨b,cap,cur,h1,h2,h3,h4,h5,h6⟩
 ·injection h1 with ha hb hc
  omega
 ·injection h1 with ha hb hc
  omega
theorem Step.marks {w0 w: World} {H0 H: PHeap} {L0 M X: List Ent} {e: Ent} (h: Step w0 H0 L0 w H (e::(M++X))): Step w0 H0 L0 w H (M++e::X):=h.perm List.perm_middle.symm
theorem aO {α: Type} {l: List α} {k: Nat} {t: α} (h: l[k]? =some t): l.drop k=t::l.drop (k+1):=by
 have hk: k < l.length:=(List.getElem?_eq_some_iff.1 h).1;rw [List.drop_eq_getElem_cons hk,(List.getElem?_eq_some_iff.1 h).2]
theorem Step.call_tail {w0 w w': World} {H0 H H': PHeap} {L0 Es X X': List Ent} (h: Step w0 H0 L0 w H (Es++X)) (c: Step w H X w' H' X'): Step w0 H0 L0 w' H' (Es++X'):=
 (Step.frame (h.perm List.perm_append_comm) c).perm List.perm_append_comm
theorem Inv.tail {w: World} {H: PHeap} {Es X: List Ent} (h: Inv w H (Es++X)): Inv w H X:=Inv.left (h.perm List.perm_append_comm)
def occB (B: List Tm) (v: Int) (t: Tm): Bool:=(VF B (fun x=>decide (x=v)) [t] [] []).1
end Go.Vk
namespace Go.Vk
open Go.RowKit
def gfl {α: Type} (f: α->List Value) (xs: List α): List Value:=xs.flatMap f
section
variable {α: Type} {f: α->List Value} {m: Nat}
theorem bQ (x: α) (xs: List α): gfl f (x::xs)=f x++gfl f xs:=by simp [gfl]
theorem a7 (xs ys: List α): gfl f (xs++ys)=gfl f xs++gfl f ys:=by simp [gfl]
theorem aN (hf: ∀ x,(f x).length=m): ∀ xs: List α,(gfl f xs).length=xs.length * m
 | []=>by simp [gfl]
 | x::xs=>by rw [bQ,List.length_append,aN hf xs,hf,List.length_cons,Nat.add_mul];omega
theorem fa (hf: ∀ x,(f x).length=m): ∀(xs: List α) (j: Nat),(gfl f xs).take (j * m)=gfl f (xs.take j)
 | [],j=>by simp [gfl]
 | x::xs,0=>by simp [gfl]
 | x::xs,j+1=>by
  rw [bQ,List.take_succ_cons,bQ,List.take_append,hf,List.take_of_length_le (by rw [hf,Nat.add_mul];omega),show (j+1) * m - m=j * m by rw [Nat.add_mul];omega,fa hf xs j]
theorem e9 (hf: ∀ x,(f x).length=m): ∀(xs: List α) (j: Nat),(gfl f xs).drop (j * m)=gfl f (xs.drop j)
 | [],j=>by simp [gfl]
 | x::xs,0=>by simp
 | x::xs,j+1=>by
  rw [bQ,List.drop_succ_cons,List.drop_append,hf,List.drop_of_length_le (by rw [hf,Nat.add_mul];omega),show (j+1) * m - m=j * m by rw [Nat.add_mul];omega,e9 hf xs j,List.nil_append]
theorem d6 (hf: ∀ x,(f x).length=m) {xs: List α} {j i: Nat} {x: α} {u: Value} (h: xs[j]? =some x) (hi:(f x)[i]? =some u):(gfl f xs)[j * m+i]? =some u:=by
 have hj: j < xs.length:=(List.getElem?_eq_some_iff.1 h).1;have hlt: i <(f x).length:=(List.getElem?_eq_some_iff.1 hi).1;have hx: xs[j]=x:=(List.getElem?_eq_some_iff.1 h).2;rw [<- List.getElem?_drop,e9 hf,List.drop_eq_getElem_cons hj,bQ,hx,List.getElem?_append_left hlt];exact hi
theorem cO (h1: ∀ x,∀ u ∈ f x,u.oneCell'=true) (xs: List α): ∀ u ∈ gfl f xs,u.oneCell'=true:=by
 intro u hu;obtain⟨x,_,hx⟩:=List.mem_flatMap.1 hu;exact h1 x u hx
theorem Row.getG (hf: ∀ x,(f x).length=m) {v: Value} {en: Ent} {e n: Nat} {xs: List α} (hm: 0 < m) (hR: Row v en e m n (gfl f xs)) {j: Nat} (hj: j < n): ∃ x b cap cur,xs[j]? =some x/\v=.slice (some ⟨b,0,none⟩) n cap/\en=(some b,.cells cur e (0,0))/\∀ i u,(f x)[i]? =some u->cur[0+j * m+i]? =some u:=by
 have hn: xs.length=n:=by
  have:=hR.1;rw [aN hf] at this;exact Nat.eq_of_mul_eq_mul_right hm this
 rcases hR.2 with ⟨h1,h2,_⟩ |⟨b,cap,cur,h1,h2,h3,h4,h5,h6⟩
 ·omega
 ·refine⟨xs[j]' j0,b,cap,cur,List.getElem?_eq_getElem j0,h1,h2,fun i u hu=>?_⟩;have:=d6 hf (List.getElem?_eq_getElem (show j < xs.length by omega)) hu;rw [<- h6,List.getElem?_take] at this
  split at this
  ·rw [Nat.zero_add];simpa using this
  ·cases this
end
end Go.Vk
namespace Go.Vk
def wlk {σ: Type} (Bof: σ->List Tm) (bd: σ->Int->Tm->Bool × σ): Nat->List (Tm × Tm)->σ->(Bool × Int) × σ
 | _, [],s=>((true,0),s)
 | 0,_::_,s=>((false,2),s)
 | k+1,(a,b)::ps,s =>
  if ((decide (a.kind=1)&&decide (b.kind=1))&&decide (a.n=b.n))=true then wlk Bof bd k ps s
  else
   if ((decide ((follow (Bof s) a).kind=1))&&decide ((follow (Bof s) b).kind=1))=true then
    if (follow (Bof s) a).n=(follow (Bof s) b).n then wlk Bof bd k ps s
    else if (bd s (max (follow (Bof s) a).n (follow (Bof s) b).n) (.mk 1 (min (follow (Bof s) a).n (follow (Bof s) b).n) ⟨#[]⟩ [])).1 then wlk Bof bd k ps (bd s (max (follow (Bof s) a).n (follow (Bof s) b).n) (.mk 1 (min (follow (Bof s) a).n (follow (Bof s) b).n) ⟨#[]⟩ [])).2
    else ((false,0),(bd s (max (follow (Bof s) a).n (follow (Bof s) b).n) (.mk 1 (min (follow (Bof s) a).n (follow (Bof s) b).n) ⟨#[]⟩ [])).2)
   else if (follow (Bof s) a).kind=1 then
    if (bd s (follow (Bof s) a).n (follow (Bof s) b)).1 then wlk Bof bd k ps (bd s (follow (Bof s) a).n (follow (Bof s) b)).2 else ((false,0),(bd s (follow (Bof s) a).n (follow (Bof s) b)).2)
   else if (follow (Bof s) b).kind=1 then
    if (bd s (follow (Bof s) b).n (follow (Bof s) a)).1 then wlk Bof bd k ps (bd s (follow (Bof s) b).n (follow (Bof s) a)).2 else ((false,0),(bd s (follow (Bof s) b).n (follow (Bof s) a)).2)
   else if alkB (follow (Bof s) a) (follow (Bof s) b) then wlk Bof bd k ((follow (Bof s) a).l.zip (follow (Bof s) b).l++ps) s
   else ((false,0),s)
end Go.Vk
namespace Go.Vk
def vr (n: Int): Tm:=.mk 1 n ⟨#[]⟩ []
def bound (B: List Tm) (i: Nat): Prop:= ∃ t,B[i]? =some t/\t.kind≠0
inductive Reach (B: List Tm): Tm->Int->Prop
 | occ {t: Tm} {j: Int} (h: j ∈ occ t): Reach B t j
 | step {t u: Tm} {j v: Int} (h: j ∈ Vk.occ t) (hu: B[j.toNat]? =some u) (hb: u.kind≠0) (hr: Reach B u v): Reach B t v
def OccV (n: Nat) (t: Tm): Prop:= ∀ j ∈ occ t,0<=j/\j < n
def Ranked (B: List Tm) (rk: Nat->Nat): Prop:= ∀(i: Nat) (t: Tm),B[i]? =some t->t.kind≠0->∀ j ∈ occ t,rk j.toNat < rk i
def Acyc (B: List Tm): Prop:= ∃ rk,Ranked B rk
theorem default_kind:(default: Tm).kind=0:=rfl
theorem getD_bound {B: List Tm} {i: Nat} (h:(B.getD i default).kind≠0): B[i]? =some (B.getD i default):=by
 rw [List.getD_eq_getElem?_getD] at h ⊢
 cases hb: B[i]? with
 | none=>rw [hb] at h;exact absurd default_kind h
 | some t=>rfl
end Go.Vk
namespace Go.Vk
open Go.RowKit
def okT (n: Nat) (t: Tm): Bool:=isR t&&overR (n: Int) t
theorem gw {n: Nat} {t: Tm} (h: okT n t=true): isR t=true:=by
 unfold okT at h;rw [Bool.and_eq_true] at h;exact h.1
theorem gv {n: Nat} {t: Tm} (h: okT n t=true): overR (n: Int) t=true:=by
 unfold okT at h;rw [Bool.and_eq_true] at h;exact h.2
theorem okT_mk {n: Nat} {t: Tm} (h1: isR t=true) (h2: overR (n: Int) t=true): okT n t=true:=by unfold okT;rw [h1,h2];rfl
theorem cF {t: Tm} (h: isR t=true): t.sz<=4000/\dep t<=600/\nodesR t=true:=by
 unfold isR at h;simp only [Bool.and_eq_true,decide_eq_true_eq] at h;exact⟨by omega,by omega,h.2⟩
theorem fL {t: Tm} (h1: t.sz<=4000) (h2: dep t<=600) (h3: nodesR t=true): isR t=true:=by
 unfold isR;simp only [Bool.and_eq_true,decide_eq_true_eq];exact⟨⟨by omega,by omega⟩,h3⟩
theorem depL_get: ∀ {ts: List Tm} {u: Tm},u ∈ ts->dep u<=depL ts
 | t::ts,u,h=>by
  rw [depL]
  rcases List.mem_cons.1 h with rfl | h
  ·omega
  ·have:=depL_get h;omega
theorem szL_mem {ts: List Tm} {u: Tm} (h: u ∈ ts): u.sz<=Tm.szL ts:=by
 obtain⟨j,hj⟩:=List.getElem?_of_mem h;exact Tm.szL_get hj
theorem isR_sub {t u: Tm} (h: isR t=true) (hu: u ∈ t.l): isR u=true:=by
 obtain⟨h1,h2,h3⟩:=cF h;have:=szL_mem hu;have:=depL_get hu;rw [t.sz_eq] at h1;rw [gi] at h2;rw [bF,bT,Bool.and_eq_true] at h3;exact fL j0 j0 (List.all_eq_true.1 h3.2 u hu)
theorem di {t: Tm} (h: nodeR t=true): 1<=t.kind/\t.kind<=6:=by
 unfold nodeR at h
 split at h
 ·omega
 split at h
 ·omega
 split at h
 ·omega
 split at h
 ·omega
 split at h
 ·omega
 split at h
 ·omega
 ·cases h
theorem cG {t: Tm} (h: nodeR t=true): t.l.length<=64:=by
 unfold nodeR at h
 repeat' split at h
 all_goals first |(simp only [Bool.and_eq_true,decide_eq_true_eq] at h;omega) | cases h
theorem cd {t: Tm} (h: nodeR t=true) (hk: t.kind=1): 0<=t.n/\t.n < 100000/\t.s=⟨#[]⟩/\t.l= []:=by
 unfold nodeR at h;rw [if_pos hk] at h;simp only [Bool.and_eq_true,decide_eq_true_eq] at h;exact⟨h.1.1.1,h.1.1.2,h.1.2,List.eq_nil_of_length_eq_zero j0⟩
theorem isR_node {t: Tm} (h: isR t=true): nodeR t=true:=by
 have:=(cF h).2.2;rw [bF,Bool.and_eq_true] at this;exact this.1
theorem okT_sz {n: Nat} {t: Tm} (h: okT n t=true): t.sz<=4000:=(cF (gw h)).1
theorem dF {n: Nat} {t: Tm} (h: okT n t=true) (hk: t.kind=1): 0<=t.n/\t.n < n:=cg (gv h) hk
theorem vr_ok {n: Nat} {i: Int} (h0: 0<=i) (h1: i < n) (hn: n<=100000): okT n (vr i)=true:=by
 refine okT_mk (fL (by simp [vr,Tm.sz,Tm.szL]) (by simp [vr,dep,depL]) ?_) ?_
 ·rw [bF];simp only [vr,Tm.l,nodesRL,Bool.and_true];unfold nodeR;simp only [Tm.kind,Tm.n,Tm.s,Tm.l,if_true,Bool.and_eq_true,List.length_nil];exact⟨⟨⟨decide_eq_true h0,decide_eq_true j0⟩,by decide⟩,by simp⟩
 ·rw [d8];simp only [vr,Tm.kind,Tm.n,Tm.l,overRL,decide_true,Bool.true_and,Bool.and_true,Bool.not_eq_true',Bool.or_eq_false_iff];exact⟨decide_eq_false j0,decide_eq_false j0⟩
structure Gst (n: Nat) (B: List Tm): Prop where
 len: B.length=n
 le: n<=100000
 el: ∀(i: Nat) (t: Tm),B[i]? =some t->freeB t=true\/(okT n t=true/\(t.kind=1->t.n < i))
theorem freeB_parts {t: Tm} (h: freeB t=true): t.kind=0/\t.n=0/\t.s=⟨#[]⟩/\t.l= []:=by
 unfold freeB at h;simp only [Bool.and_eq_true,decide_eq_true_eq] at h;exact⟨h.1.1.1,h.1.1.2,h.1.2,List.eq_nil_of_length_eq_zero j0⟩
theorem freeB_zero {t: Tm} (h: freeB t=true): t=Tm.zero:=by
 obtain⟨h1,h2,h3,h4⟩:=freeB_parts h;exact Tm.ext_ h1 h2 h3 h4
theorem free_over {n: Int} {t: Tm} (h: freeB t=true): overR n t=true:=by
 rw [freeB_zero h];rfl
theorem Gst.bnd {n: Nat} {B: List Tm} (h: Gst n B) {i: Nat} {t: Tm} (hi: B[i]? =some t) (hk: t.kind≠0): okT n t=true/\(t.kind=1->t.n < i):=by
 rcases h.el i t hi with h1 | h1
 ·exact absurd (freeB_parts h1).1 hk
 ·exact h1
theorem Gst.dec {n: Nat} {B: List Tm} (h: Gst n B): Dec B:=fun i t hi hk=>by
 have:=h.bnd hi j0;exact⟨(dF this.1 hk).1,this.2 hk⟩
theorem Gst.allV {n: Nat} {B: List Tm} (h: Gst n B): AllV B.length B:=fun t ht=>by
 obtain⟨i,hi⟩:=List.getElem?_of_mem ht;rw [h.len]
 rcases h.el i t hi with h1 | h1
 ·exact free_over h1
 ·exact gv h1.1
theorem Gst.szL {n: Nat} {B: List Tm} (h: Gst n B): Tm.szL B<=4000 * n:=by
 have key: ∀ ts: List Tm,(∀ t ∈ ts,t.sz<=4000)->Tm.szL ts<=4000 * ts.length:=by
  intro ts
  induction ts with
  | nil=>intro _;simp [Tm.szL]
  | cons t ts ih =>
   intro hh;have h1:=ih (fun u hu=>hh u (List.mem_cons_of_mem _ hu));have h2:=hh t List.mem_cons_self;rw [Tm.szL,List.length_cons];omega
 rw [<- h.len];refine key B fun t ht=>?_;obtain⟨i,hi⟩:=List.getElem?_of_mem ht
 rcases h.el i t hi with h1 | h1
 ·rw [freeB_zero h1];decide
 ·exact okT_sz h1.1
theorem okT_vis {n: Nat} {B: List Tm} (h: Gst n B) {t: Tm} (ht: okT n t=true): Vis B.length t:=fun hk=>by rw [h.len];exact dF ht hk
theorem followN_ok {n: Nat} {B: List Tm} (h: Gst n B): ∀(k: Nat) (t: Tm),okT n t=true->(t.kind=1->t.n.toNat < k)->okT n (followN B k t)=true/\((followN B k t).kind=1->opn B (followN B k t).n=true)
 | 0,t,ht,hk=>⟨ht,fun h1=>by have:=hk h1;omega⟩
 | k+1,t,ht,hk=>by
  rw [followN]
  split
  ·rename_i hc
   have hg:=getD_bound hc.2;have h1:=h.bnd hg hc.2;refine followN_ok h k _ h1.1 fun h2=>?_;have:=h1.2 h2;have:=hk hc.1;have:=dF h1.1 h2;omega
  ·rename_i hc
   refine⟨ht,fun h1=>?_⟩;unfold opn;rw [decide_eq_true_eq];exact Classical.byContradiction fun h2=>hc ⟨h1,h2⟩
theorem dE {n: Nat} {B: List Tm} (h: Gst n B) {t: Tm} (ht: okT n t=true): okT n (follow B t)=true/\((follow B t).kind=1->opn B (follow B t).n=true):=followN_ok h _ t ht fun _=>by omega
structure BC (n: Nat) (B: List Tm) (v: Int) (t: Tm): Prop where
 lo: 0<=v
 hi: v < n
 op: opn B v=true
 ok: okT n t=true
 dn: t.kind=1->t.n < v
theorem BC.mm {n: Nat} {B: List Tm} (h: Gst n B) {a b: Tm} (ha: okT n a=true) (hb: okT n b=true) (hka:(follow B a).kind=1) (hkb:(follow B b).kind=1) (hne:(follow B a).n≠(follow B b).n) :
  BC n B (max (follow B a).n (follow B b).n) (.mk 1 (min (follow B a).n (follow B b).n) ⟨#[]⟩ []):=by
 obtain⟨h1,h2⟩:=dE h ha;obtain⟨h3,h4⟩:=dE h hb;have h5:=dF h1 hka;have h6:=dF h3 hkb;refine⟨by omega,by omega,?_,vr_ok j0 j0 h.le,fun _=>?_⟩
 ·rcases Int.le_total (follow B a).n (follow B b).n with h7 | h7
  ·rw [Int.max_eq_right h7];exact h4 hkb
  ·rw [Int.max_eq_left h7];exact h2 hka
 ·show min _ _ < max _ _
  omega
theorem BC.x {n: Nat} {B: List Tm} (h: Gst n B) {a b: Tm} (ha: okT n a=true) (hb: okT n b=true) (hka:(follow B a).kind=1) (hkb: ¬(follow B b).kind=1): BC n B (follow B a).n (follow B b):=by
 obtain⟨h1,h2⟩:=dE h ha;have h5:=dF h1 hka;exact⟨h5.1,h5.2,h2 hka,(dE h hb).1,fun h6=>absurd h6 hkb⟩
theorem Row.of_litG {α: Type} {f: α->List Value} {m: Nat} (hf: ∀ x,(f x).length=m) {b e: Nat} {cs: Array Value} (xs: List α) (hc: cs.toList=gfl f xs) (hl: xs.length<=maxLen): Row (.slice (some ⟨b,0,none⟩) xs.length xs.length) (some b,.cells cs e (0,0)) e m xs.length (gfl f xs):=by
 have h1:(gfl f xs).length=xs.length * m:=aN hf xs;refine⟨h1,.inr ⟨b,xs.length,cs,rfl,rfl,Nat.le_refl _,hl,?_,?_⟩⟩
 ·rw [<- h1,<- hc];simp
 ·rw [hc,<- h1,List.take_length]
section
variable {σ: Type} {Bof: σ->List Tm} {bd: σ->Int->Tm->Bool × σ} {k: Nat} {a b: Tm} {ps: List (Tm × Tm)} {s: σ}
end
end Go.Vk
namespace Go.Vk
open Go.RowKit
abbrev FcV {α: Type} (x: Value): α->Value->Prop:=fun _ v=>v=x
end Go.Vk
namespace Go.Vk.As
open Go.RowKit
structure S where
 H: PHeap
 ax: Nat->Option (List Ent)
abbrev FactS:=S->Value->Prop
def conE (ini: Nat->List Ent) (sup: Nat->Option Nat) (ax: Nat->Option (List Ent)) (i: Nat): List Ent:=
 bif (match sup i with | some j=>(ax j).isSome | none=>false) then [] else (ax i).getD (ini i)
def aents (ini: Nat->List Ent) (sup: Nat->Option Nat) (als: List Nat) (ax: Nat->Option (List Ent)): List Ent:=als.flatMap (conE ini sup ax)
structure RlS (s s': S): Prop where
 le: Le s.H s'.H
 ax: ∀ i E,s.ax i=some E->s'.ax i=some E
theorem RlS.refl (s: S): RlS s s:=⟨Le.refl _,fun _ _ h=>h⟩
theorem RlS.trans {s s' s'': S} (h: RlS s s') (h': RlS s' s''): RlS s s'':=⟨h.le.trans h'.le,fun i E e=>h'.ax i E (h.ax i E e)⟩
theorem RlS.get {s s': S} (h: RlS s s') {i: Nat} {E: List Ent} (he: s.ax i=some E): s'.ax i=some E:=h.ax i E he
section
variable {P: Program} {Q: Exit->Act->World->Prop} {D: List Deferred} {N: Nat} {E: Env} {w0: World} {H0: PHeap} {L0 L: List Ent} {s0: S} {als: List Nat} {ini: Nat->List Ent} {sup: Nat->Option Nat}
def okDraw (tl: Nat) (l: List Oper) (N: Nat) (E: Env): Bool:=
 acyB l&&((List.range l.length).all fun i=>match l[i]? with
  | some o=>(match o.dst with
   | some d=>Nat.blt d N&&(!Nat.blt i tl||E.all fun p=>!Nat.beq p.1 d)&&(List.range l.length).all fun j=>Nat.beq i j||!Nat.blt i tl||!Nat.blt j tl||(match l[j]? with
    | some oj=>(match oj.dst with
     | some d'=>!Nat.beq d d'
     | none=>true)
    | none=>true)
   | none=>true)
  | none=>true)
structure Okd (tl: Nat) (l: List Oper) (N: Nat) (E: Env): Prop where
 acy: ∀(b: Nat->Bool),(∀(i: Nat) (o: Oper),l[i]? =some o->(∀ e ∈ o.after,Region.binds .any e=true->b e.on=true)->b i=true)->∀ i,i < l.length->b i=true
 lt: ∀(i: Nat) (o: Oper) (d: Nat),l[i]? =some o->o.dst=some d->d < N
 env: ∀(i: Nat) (o: Oper) (d: Nat),i < tl->l[i]? =some o->o.dst=some d->∀ p ∈ E,p.1≠d
 dst: ∀(i j: Nat) (o oj: Oper) (d: Nat),i < tl->j < tl->l[i]? =some o->l[j]? =some oj->o.dst=some d->oj.dst=some d->i=j
theorem cH {tl: Nat} {l: List Oper} {N: Nat} {E: Env} (h: okDraw tl l N E=true): Okd tl l N E:=by
 unfold okDraw at h;rw [Bool.and_eq_true] at h;have key: ∀(i: Nat) (o: Oper),l[i]? =some o->∀ d,o.dst=some d->Nat.blt d N=true/\(i < tl->(E.all fun p=>!Nat.beq p.1 d)=true)/\∀(j: Nat) (oj: Oper),i < tl->j < tl->l[j]? =some oj->oj.dst=some d->i=j:=by
  intro i o hi d hd;have hl: i < l.length:=(List.getElem?_eq_some_iff.1 hi).1;have h2:=List.all_eq_true.1 h.2 i (List.mem_range.2 hl);rw [hi] at h2;simp only [hd,Bool.and_eq_true] at h2;refine⟨h2.1.1,fun hit=>by have h3:=h2.1.2;rw [show Nat.blt i tl=true from by simpa [Nat.blt_eq] using hit] at h3;simpa using h3,fun j oj hit hjt hj hdj=>?_⟩;have hlj: j < l.length:=(List.getElem?_eq_some_iff.1 hj).1;have h3:=List.all_eq_true.1 h2.2 j (List.mem_range.2 hlj);rw [hj] at h3;rw [show Nat.blt i tl=true from by simpa [Nat.blt_eq] using hit,show Nat.blt j tl=true from by simpa [Nat.blt_eq] using hjt] at h3;simp only [Bool.or_eq_true,hdj,Nat.beq_refl,Bool.not_true,Bool.or_false] at h3;exact Nat.eq_of_beq_eq_true h3
 refine⟨acyB_ok h.1,fun i o d hi hd=>Nat.le_of_ble_eq_true (key i o hi d hd).1,fun i o d hit hi hd p hp=>?_,fun i j o oj d hit hjt hi hj hd hdj=>(key i o hi d hd).2.2 j oj hit hjt hj hdj⟩;have h1:=List.all_eq_true.1 ((key i o hi d hd).2.1 hit) p hp;exact nbeq h1
def reach (l: List Oper) (i: Nat): Nat->Nat->Bool
 | 0,j=>Nat.beq j i
 | f+1,j=>Nat.beq j i||(match l[j]? with
  | some o=>o.after.toList.any fun e=>Region.binds .any e&&reach l i f e.on
  | none=>false)
theorem reach_back {l: List Oper} {b: Nat->Bool} {i: Nat} (hcl: ∀ s o,b s=true->l[s]? =some o->∀ e ∈ o.after,Region.binds .any e=true->b e.on=true): ∀(f j: Nat),reach l i f j=true->b j=true->b i=true
 | 0,j,h,hb=>by
  rw [<- Nat.eq_of_beq_eq_true (h: Nat.beq j i=true)];exact hb
 | f+1,j,h,hb=>by
  unfold reach at h
  rcases (Bool.or_eq_true _ _).mp h with h | h
  ·rw [<- Nat.eq_of_beq_eq_true h];exact hb
  ·cases ho: l[j]? with
   | none=>rw [ho] at h;cases h
   | some o =>
    rw [ho] at h;obtain⟨e,he,h2⟩:=List.any_eq_true.1 h;rw [Bool.and_eq_true] at h2;exact reach_back hcl f e.on h2.2 (hcl j o hb ho e (Array.mem_toList_iff.1 he) h2.1)
structure Dep (l: List Oper) (Φ: List FactS) (i: Nat) (o: Oper) (a: Act) (H: S): Prop where
 late: ∀(f j: Nat),reach l i f j=true->H.ax j=none
 fact: ∀(j: Nat) (E: List Ent),H.ax j=some E->∀(oj: Oper),l[j]? =some oj->∀(φ: FactS),Φ[j]? =some φ->∃ v,φ H v
 get: ∀(j: Nat),(o.after.toList.any fun e=>Region.binds .any e&&Nat.beq e.on j)=true->∀(oj: Oper),l[j]? =some oj->∀(φ: FactS),Φ[j]? =some φ->∃ v,(∀ d,oj.dst=some d->a.tmps[d]? =some v)/\φ H v
def Quiet (ini: Nat->List Ent) (sup: Nat->Option Nat) (als: List Nat) (P: Program) (l: List Oper) (Φ: List FactS) (D: List Deferred) (N: Nat) (E: Env) (w0: World) (H0: PHeap) (L0: List Ent) (s0: S) (L: List Ent) (Q: Exit->Act->World->Prop) (i: Nat) (o: Oper) (φ: FactS): Prop:=
 ∀ a w s,RlS s0 s->s.ax i=none->Step w0 H0 L0 w s.H (aents ini sup als s.ax++L)->Has D a N E->Dep l Φ i o a s->
  if Region.wanted o (yielded l.toArray a.tmps) then Oper.wp P o a w (fun a' w'=> ∃ s' v,RlS s s'/\(∀ j,j≠i->s.ax j=none->s'.ax j=none)/\Step w0 H0 L0 w' s'.H (aents ini sup als s'.ax++L)/\((∀ d,o.dst=some d->a'.tmps[d]? =some v)/\φ s' v)/\a'.defers=D) Q
  else φ s undef
inductive QuietsI (C: Nat->Oper->FactS->Prop): Nat->List Oper->List FactS->Prop
 | nil {i: Nat}: QuietsI C i [] []
 | cons {i: Nat} {o: Oper} {φ: FactS} {l: List Oper} {Φ: List FactS} (h: C i o φ) (hs: QuietsI C (i+1) l Φ): QuietsI C i (o::l) (φ::Φ)
theorem QuietsI.get {C: Nat->Oper->FactS->Prop} {l: List Oper} {Φ: List FactS} {q: Nat} (h: QuietsI C q l Φ): ∀(i: Nat) (o: Oper),l[i]? =some o->∃ φ,Φ[i]? =some φ/\C (q+i) o φ:=by
 induction h with
 | nil=>intro i o h;simp at h
 | cons hc hs ih =>
  intro i o hi
  cases i with
  | zero =>
   obtain rfl: _=o:=by simpa using hi
   exact⟨_,rfl,hc⟩
  | succ i =>
   obtain⟨φ,h1,h2⟩:=ih i o (by simpa using hi);exact⟨φ,by simpa using h1,by rw [show ∀ q: Nat,q+(i+1)=q+1+i from fun q=>by omega];exact h2⟩
structure DInv (ini: Nat->List Ent) (sup: Nat->Option Nat) (als: List Nat) (l: List Oper) (Φ: List FactS) (D: List Deferred) (N: Nat) (E: Env) (w0: World) (H0: PHeap) (L0: List Ent) (s0: S) (L: List Ent) (b: Nat->Bool) (a: Act) (w: World): Prop where
 has: Has D a N E
 st: ∃ s,RlS s0 s/\Step w0 H0 L0 w s.H (aents ini sup als s.ax++L)/\(∀ i,b i=false->s.ax i=none)/\∀(i: Nat) (o: Oper) (φ: FactS),b i=true->l[i]? =some o->Φ[i]? =some φ->∃ v,(∀ d,o.dst=some d->a.tmps[d]? =some v)/\φ s v
def Monos (Φ: List FactS): Prop:= ∀ φ,φ ∈ Φ->∀ s s' v,RlS s s'->φ s v->φ s' v
theorem Monos.nil: Monos []:=fun φ h=>by cases h
theorem Monos.cons {φ: FactS} {Φ: List FactS} (h: ∀ s s' v,RlS s s'->φ s v->φ s' v) (hs: Monos Φ): Monos (φ::Φ):=fun ψ hψ=>by
 rcases List.mem_cons.1 hψ with rfl | hψ
 ·exact h
 ·exact hs ψ hψ
theorem cD {tl: Nat} {l: List Oper} {Φ: List FactS} (hok: Okd tl l N E) (hm: Monos Φ) {i: Nat} {o: Oper} {φ: FactS} (hi: l[i]? =some o) (hφ: Φ[i]? =some φ) (hq: Quiet ini sup als P l Φ D N E w0 H0 L0 s0 L Q i o φ) {b: Nat->Bool} {a: Act} {w: World}
  (hI: DInv ini sup als l Φ D N E w0 H0 L0 s0 L b a w) (hbi: b i=false) (hbt: ∀ j,b j=true->j < tl) (hit: i < tl) (hd: ∀ e ∈ o.after,Region.binds .any e=true->b e.on=true) (hcl: ∀ s o,b s=true->l[s]? =some o->∀ e ∈ o.after,Region.binds .any e=true->b e.on=true) {K: Act->World->Prop} (hK: ∀ a' w',DInv ini sup als l Φ D N E w0 H0 L0 s0 L (fun j=>bif Nat.beq j i then true else b j) a' w'->K a' w') :
  wpOp P l.toArray Q i K a w:=by
 have hget: l.toArray[i]? =some o:=by simpa using hi
 obtain⟨ha,H1,hle,hS,hfr,hf⟩:=hI;have hdep: Dep l Φ i o a H1:=⟨fun f j hr=>hfr j (by
  cases hb: b j with
  | false=>rfl
  | true=>exact absurd (reach_back hcl f j hr hb) (by rw [hbi];simp)),fun j F hF oj hoj ψ hψ=>by
  have hb: b j=true:=by
   cases hb: b j with
   | true=>rfl
   | false=>rw [hfr j hb] at hF;cases hF
  obtain⟨v,_,hv⟩:=hf j oj ψ hb hoj hψ;exact⟨v,hv⟩,fun j hj oj hoj ψ hψ=>by
  obtain⟨e,he,hej⟩:=List.any_eq_true.1 hj;have he:=Array.mem_toList_iff.1 he;simp only [Bool.and_eq_true] at hej;have: b j=true:=by rw [<- Nat.eq_of_beq_eq_true hej.2];exact hd e he hej.1
  exact hf j oj ψ this hoj hψ⟩
 have h:=hq a w H1 hle (hfr i hbi) hS ha hdep;have hne: ∀ d,o.dst=some d->∀ k v,lk E k=some v->k≠d:=fun d hdd k v hk=>by
  obtain⟨p,hp,he⟩:=gl hk;rw [<- he];exact hok.env i o d hit hi hdd p hp
 have hsame: ∀(x: Value) (k: Nat),o.dst≠some k->(a.put o.dst x).tmps[k]? =a.tmps[k]?:=by
  intro x k hk
  cases hod: o.dst with
  | none=>rfl
  | some d =>
   show (a.tmps.setIfInBounds d x)[k]? =_
   rw [Array.getElem?_setIfInBounds_ne (fun e=>hk (by rw [hod,e]))]
 have hsz: ∀ x: Value,(a.put o.dst x).tmps.size=N:=by
  intro x
  cases hod: o.dst with
  | none=>exact ha.size
  | some d=>simp [Act.put,ha.size]
 have fin: ∀ a' w' H2 (x: Value),a'.tmps=(a.put o.dst x).tmps->a'.defers=D->RlS H1 H2->(∀ j,j≠i->H1.ax j=none->H2.ax j=none)->Step w0 H0 L0 w' H2.H (aents ini sup als H2.ax++L)->(∃ v,(∀ d,o.dst=some d->a'.tmps[d]? =some v)/\φ H2 v)->
   DInv ini sup als l Φ D N E w0 H0 L0 s0 L (fun j=>bif Nat.beq j i then true else b j) a' w':=by
  intro a' w' H2 x htm hdf hle2 hfr2 hS2 hv;refine⟨⟨by rw [htm];exact hsz x,hdf,fun k v hk=>?_⟩,H2,hle.trans hle2,hS2,fun j hj=>(by
   have hne2: j≠i:=fun e=>by subst e;rw [Nat.beq_refl] at hj;cases hj
   have hj': b j=false:=by
    have hb2: Nat.beq j i=false:=by rw [Bool.eq_false_iff];intro hh;exact hne2 (Nat.eq_of_beq_eq_true hh)
    rw [hb2] at hj;exact hj
   exact hfr2 j hne2 (hfr j hj')),fun j oj ψ hbj hoj hψ=>?_⟩
  ·rw [htm,hsame x k (fun e=>hne k e k v hk J)];exact ha.get k v hk
  ·cases hji: Nat.beq j i with
   | true =>
    have hji':=Nat.eq_of_beq_eq_true hji;subst hji';rw [hi] at hoj;obtain rfl:=Option.some.inj hoj;rw [hφ] at hψ;obtain rfl:=Option.some.inj hψ;exact hv
   | false =>
    have hbj: b j=true:=by simpa [hji] using hbj
    obtain⟨v,h1,h2⟩:=hf j oj ψ hbj hoj hψ;refine⟨v,fun d hdj=>?_,hm ψ (List.mem_of_getElem? hψ) _ _ _ hle2 h2⟩;rw [htm,hsame x d (fun e=>by
     have:=hok.dst i j o oj d hit (hbt j hbj) hi hoj e hdj;subst this;rw [Nat.beq_refl] at hji
     cases hji)]
    exact h1 d hdj
 unfold wpOp;rw [hget];simp only
 split
 ·rename_i hw
  rw [if_pos hw] at h;refine .inl (Oper.wp_mono (fun a' w' hh=>?_) (gu h));obtain⟨⟨H2,v,hle2,hfr2,hS2,hv,hdf⟩,x,htm⟩:=hh;exact hK _ _ (fin a' w' H2 x htm hdf hle2 hfr2 hS2 ⟨v,hv⟩)
 ·rename_i hw
  rw [if_neg hw] at h;refine hK _ _ (fin _ w H1 undef J (by cases o.dst <;> exact ha.dfr) (RlS.refl _) (fun _ _ h=>h) hS ⟨undef,fun d hd=>?_,h⟩);rw [hd]
  show (a.tmps.setIfInBounds d undef)[d]? =some undef
  rw [Array.getElem?_setIfInBounds_self,if_pos (by rw [ha.size];exact hok.lt i o d hi hd)]
theorem ek {l: List Oper} {Φ: List FactS} (tl: Nat) (hok: Okd tl l N E) (hm: Monos Φ) (htl: tl < l.length) (hh: okHead l tl=true)
  (hq: ∀(i: Nat) (o: Oper),i < tl->l[i]? =some o->∃ φ,Φ[i]? =some φ/\Quiet ini sup als P l Φ D N E w0 H0 L0 s0 L Q i o φ)
  (hfin: ∀ f a w,DInv ini sup als l Φ D N E w0 H0 L0 s0 L (fun j=>decide (j < tl)) a w->wpAny P .any l.toArray Q (f+(l.length - tl)) (headDone l.length tl) a w) :
  ∀(fuel: Nat) (listed: Array Bool) (a: Act) (w: World),listed.size=l.length->unl l.length (lof listed)<=fuel->(∀ s o,lof listed s=true->l[s]? =some o->∀ e ∈ o.after,Region.binds .any e=true->lof listed e.on=true)->(∀ s,tl<=s->lof listed s=false)->
   DInv ini sup als l Φ D N E w0 H0 L0 s0 L (lof listed) a w->wpAny P .any l.toArray Q fuel listed a w:=by
 have hh1: okTail l tl=true:=by
  unfold okHead at hh;rw [Bool.and_eq_true] at hh;exact hh.1
 have hh2: ∀ s o,tl < s->l[s]? =some o->∃ e ∈ o.after,Region.binds .any e=true/\tl<=e.on/\e.on < s:=by
  intro s o hs ho;unfold okHead at hh;rw [Bool.and_eq_true] at hh;have h:=List.all_eq_true.1 hh.2 s (List.mem_range.2 (List.getElem?_eq_some_iff.1 ho).1);rw [ho,show Nat.blt tl s=true from by simpa [Nat.blt_eq] using hs] at h;simp only [Bool.not_true,Bool.false_or] at h;obtain⟨e,he,h⟩:=List.any_eq_true.1 h;simp only [Bool.and_eq_true] at h;exact⟨e,Array.mem_toList_iff.1 he,h.1.1,Nat.le_of_ble_eq_true h.1.2,by simpa [Nat.blt_eq] using h.2⟩
 have hless: ∀(b: Nat->Bool) i,i < l.length->b i=false->unl l.length (upTo b i) < unl l.length b:=by
  intro b i hi hb;refine cU (x:=i) (fun y hy=>?_) (List.mem_range.2 hi) (by simp [hb]) (by simp [upTo]);simp only [Bool.not_eq_true'] at hy ⊢
  cases hby: b y with
  | false=>rfl
  | true =>
   have:=(aU b i y).2 (.inr hby);rw [this] at hy
   cases hy
 have hfull: ∀(listed: Array Bool),listed.size=l.length->(∀ i,i < tl->lof listed i=true)->(∀ s,tl<=s->lof listed s=false)->l.length - tl<=unl l.length (lof listed):=by
  intro listed hsz h1 h2;unfold unl;have hs:(List.range l.length).countP (fun i=>!lof listed i)=(List.range l.length).countP (fun i=>decide (tl<=i)):=by
   refine List.countP_congr fun i _=>?_
   by_cases h: i < tl
   ·rw [h1 i h];simp;omega
   ·rw [h2 i j0];simp;omega
  rw [hs];have key: ∀ m,m - tl<=(List.range m).countP (fun i=>decide (tl<=i)):=by
   intro m
   induction m with
   | zero=>simp
   | succ m ih =>
    rw [List.range_succ,List.countP_append,List.countP_singleton]
    by_cases h: tl<=m
    ·simp [h];omega
    ·simp [h];omega
  exact key l.length
 intro fuel
 induction fuel with
 | zero =>
  intro listed a w hsz hun hc ht hI
  exfalso
  have:=hless (lof listed) tl htl (ht tl (Nat.le_refl _));omega
 | succ fuel ih =>
  intro listed a w hsz hun hc ht hI
  by_cases hdone: ∀ i,i < tl->lof listed i=true
  ·have heq: listed=headDone l.length tl:=headDone_eq hsz (Nat.le_of_lt htl) hdone ht;have hle:=hfull listed hsz hdone ht;have hb: lof listed=fun j=>decide (j < tl):=by
    funext j
    by_cases h: j < tl
    ·rw [hdone j h];simp [h]
    ·rw [ht j j0];simp [h]
   rw [hb] at hI;have:=hfin (fuel+1 - (l.length - tl)) a w hI;rw [show fuel+1 - (l.length - tl)+(l.length - tl)=fuel+1 by omega] at this;rw [heq];exact this
  ·have hall2: ∀(o: Oper),l[tl]? =some o->(∀ e ∈ o.after,Region.binds .any e=true->lof listed e.on=true)->∀ k,k<=tl->∀ j,j < tl->tl - j<=k->lof listed j=true:=by
    intro o ho hdeps k
    induction k with
    | zero=>intro _ j hj hk;omega
    | succ k ihk =>
     intro hk' j hj hk;have h1:=List.all_eq_true.1 hh1 j (List.mem_range.2 hj);obtain⟨s,hs,h2⟩:=List.any_eq_true.1 h1;rw [List.mem_range] at hs;simp only [Bool.and_eq_true] at h2;have hjs: j < s:=Nat.le_of_ble_eq_true h2.1;have h3:=h2.2
     cases hls: l[s]? with
     | none=>rw [hls] at h3;cases h3
     | some os =>
      rw [hls] at h3;obtain⟨e,he,hej⟩:=List.any_eq_true.1 h3;have he:=Array.mem_toList_iff.1 he;simp only [Bool.and_eq_true] at hej;have hej':=Nat.eq_of_beq_eq_true hej.2;rw [<- hej']
      by_cases hsi: s=tl
      ·subst hsi;rw [ho] at hls;obtain rfl:=Option.some.inj hls;exact hdeps e he hej.1
      ·exact hc s os (ihk j0 s j0 j0) hls e he hej.1
   refine⟨fun hr=>?_,fun i hi=>?_⟩
   ·exfalso
    refine hdone fun i hit=>hok.acy (lof listed) (fun i o ho hdeps=>?_) i j0
    cases hb: lof listed i with
    | true=>rfl
    | false =>
     have: i ∈ Region.ready .any l.toArray listed:=(ch hsz).2 ⟨o,ho,hb,hdeps⟩;rw [hr] at this
     cases this
   ·obtain⟨o,ho,hbi,hdeps⟩:=(ch hsz).1 hi;have hil: i < l.length:=(List.getElem?_eq_some_iff.1 ho).1;have hit: i < tl:=by
     rcases Nat.lt_trichotomy i tl with h | h | h
     ·exact h
     ·subst h;exact absurd (fun j hj=>hall2 o ho hdeps i (Nat.le_refl _) j hj j0) hdone
     ·obtain⟨e,he,hb,h1,h2⟩:=hh2 i o h ho;have:=hdeps e he hb;rw [ht e.on h1] at this
      cases this
    obtain⟨φ,hφ,hqi⟩:=hq i o hit ho;refine cD hok hm ho hφ hqi hI hbi (fun j hj=>Classical.byContradiction fun hn=>by rw [ht j j0] at hj;cases hj) hit hdeps hc fun a' w' hI'=>?_;refine ih _ a' w' (by simpa using hsz) ?_ ?_ ?_ ?_
    ·rw [aX hsz hil];have:=hless (lof listed) i hil hbi;omega
    ·rw [aX hsz hil];intro s o' hs ho' e he hb
     rcases (aU _ _ _).1 hs with rfl | hs
     ·rw [ho] at ho';obtain rfl:=Option.some.inj ho';exact(aU _ _ _).2 (.inr (hdeps e he hb))
     ·exact(aU _ _ _).2 (.inr (hc s o' hs ho' e he hb))
    ·intro s hs;rw [aX hsz hil]
     cases hb: upTo (lof listed) i s with
     | false=>rfl
     | true =>
      rcases (aU _ _ _).1 hb with h1 | h1
      ·omega
      ·rw [ht s hs] at h1;cases h1
    ·rw [aX hsz hil];exact hI'
theorem eL {l: List Oper} {a: Act} {w: World} (tl: Nat) (Φ: List FactS) (hok: okDraw tl l N E=true) (htl: Nat.blt tl l.length=true) (hh: okHead l tl=true) (hm: Monos Φ) (h0x: ∀ i,s0.ax i=none) (hS: Step w0 H0 L0 w s0.H (aents ini sup als s0.ax++L)) (ha: Has D a N E) (hq: QuietsI (Quiet ini sup als P l Φ D N E w0 H0 L0 s0 L Q) 0 (l.take tl) Φ)
  (k: ∀ f a w s',RlS s0 s'->Step w0 H0 L0 w s'.H (aents ini sup als s'.ax++L)->Has D a N E->(∀(i: Nat) (o: Oper) (φ: FactS),(l.take tl)[i]? =some o->Φ[i]? =some φ->∃ v,(∀ d,o.dst=some d->a.tmps[d]? =some v)/\φ s' v)->wpAny P .any l.toArray Q (f+(l.length - tl)) (headDone l.length tl) a w) :
  wpAny P .any l.toArray Q l.toArray.size (Array.replicate l.toArray.size false) a { w with drawn:=w.drawn+1 }:=by
 have htl': tl < l.length:=by simpa [Nat.blt_eq] using htl
 have h0: lof (Array.replicate l.toArray.size false)=fun _=>false:=by
  funext i
  unfold lof;simp only [Array.getD_eq_getD_getElem?,Array.getElem?_replicate]
  split <;> rfl
 refine ek (ini:=ini) (sup:=sup) (als:=als) (s0:=s0) (L:=L) (Φ:=Φ) tl (cH hok) hm htl' hh (fun i o hi ho=>by have:=hq.get i o (by rw [List.getElem?_take,if_pos hi];exact ho);simpa only [Nat.zero_add] using this) ?_ _ _ a _ j1 (by rw [h0];exact fu _ _) ?_ ?_ ?_
 ·intro f a w hI;obtain⟨ha,H',hle,hS,hfr,hf⟩:=hI;refine k f a w H' hle hS ha fun i o φ ho hφ=>?_;rw [List.getElem?_take] at ho
  split at ho
  ·rename_i hi
   exact hf i o φ (by simpa using hi) ho hφ
  ·cases ho
 ·rw [h0];intro s o h
  cases h
 ·intro s _;rw [h0]
 ·rw [h0];exact⟨ha,s0,RlS.refl _,db hS,fun i _=>h0x i,fun i o φ h=>by cases h⟩
theorem c_draw_head {l: List Oper} {id: Nat} {a: Act} {w: World} (tl: Nat) (Φ: List FactS) (hP: P.follows .mixedOrders=true) (hok: okDraw tl l N E=true) (htl: Nat.blt tl l.length=true) (hh: okHead l tl=true) (hm: Monos Φ) (h0x: ∀ i,s0.ax i=none) (hS: Step w0 H0 L0 w s0.H (aents ini sup als s0.ax++L)) (ha: Has D a N E) (hq: QuietsI (Quiet ini sup als P l Φ D N E w0 H0 L0 s0 L Q) 0 (l.take tl) Φ)
  (k: ∀ f a w s',RlS s0 s'->Step w0 H0 L0 w s'.H (aents ini sup als s'.ax++L)->Has D a N E->(∀(i: Nat) (o: Oper) (φ: FactS),(l.take tl)[i]? =some o->Φ[i]? =some φ->∃ v,(∀ d,o.dst=some d->a.tmps[d]? =some v)/\φ s' v)->wpAny P .any l.toArray Q (f+(l.length - tl)) (headDone l.length tl) a w) :
  (Code.region id l.toArray true).wp P Q a w:=wp_region_any hP (eL tl Φ hok htl hh hm h0x hS ha hq k)
end
section
variable {P: Program} {N: Nat} {m: Env} {w0 w: World} {H0: PHeap} {L0 L: List Ent} {D: List Deferred} {a: Act} {als: List Nat} {ini: Nat->List Ent} {sup: Nat->Option Nat}
theorem qdone {i d: Nat} {v: Value} {φ: FactS} {s: S} {H': PHeap} (hle: Le s.H H') (ha: Has D a N ((d,v)::m)) (hS: Step w0 H0 L0 w H' (aents ini sup als s.ax++L)) (hv: φ ⟨H',s.ax⟩ v) :
  ∃ s' v,RlS s s'/\(∀ j,j≠i->s.ax j=none->s'.ax j=none)/\Step w0 H0 L0 w s'.H (aents ini sup als s'.ax++L)/\((∀ d',some d=some d'->a.tmps[d']? =some v)/\φ s' v)/\a.defers=D:=
 ⟨⟨H',s.ax⟩,v,⟨hle,fun _ _ h=>h⟩,fun _ _ h=>h,hS,⟨fun d' h=>by rw [<- Option.some.inj h];exact ha.get d v (by simp [lk]),hv⟩,ha.dfr⟩
def upd (ax: Nat->Option (List Ent)) (i: Nat) (E: List Ent): Nat->Option (List Ent):=fun j=>bif Nat.beq j i then some E else ax j
theorem upd_at (ax: Nat->Option (List Ent)) (i: Nat) (E: List Ent): upd ax i E i=some E:=by unfold upd;rw [Nat.beq_refl];rfl
theorem f4 (ax: Nat->Option (List Ent)) {i j: Nat} (E: List Ent) (h: j≠i): upd ax i E j=ax j:=by
 unfold upd;rw [show Nat.beq j i=false from by rw [Bool.eq_false_iff];intro hh;exact h (Nat.eq_of_beq_eq_true hh)];rfl
def freeOf (sup: Nat->Option Nat) (i: Nat) (xs: List Nat): Bool:=xs.all fun p=>!Nat.beq p i&&(match sup p with | some j=>!Nat.beq j i | none=>true)
theorem ec {xs: List Nat} {i: Nat} {E: List Ent} {ax: Nat->Option (List Ent)} (h: freeOf sup i xs=true): aents ini sup xs (upd ax i E)=aents ini sup xs ax:=by
 unfold aents
 induction xs with
 | nil=>rfl
 | cons x xs ih =>
  unfold freeOf at h;rw [List.all_cons,Bool.and_eq_true,Bool.and_eq_true,Bool.not_eq_true'] at h;rw [List.flatMap_cons,List.flatMap_cons,ih h.2]
  congr 1
  have hx: x≠i:=fun e=>by have h1:=h.1.1;rw [e,Nat.beq_refl] at h1;cases h1
  unfold conE;rw [f4 ax E hx]
  cases hs: sup x with
  | none=>rfl
  | some j =>
   have h2:=h.1.2;rw [hs] at h2;have hj: j≠i:=fun e=>by rw [e] at h2;simp only [Nat.beq_refl,Bool.not_true] at h2;cases h2
   simp only [f4 ax E hj]
theorem eh (pre g suf: List Nat) (ax: Nat->Option (List Ent)): aents ini sup (pre++g++suf) ax=aents ini sup pre ax++aents ini sup g ax++aents ini sup suf ax:=by
 unfold aents;rw [List.flatMap_append,List.flatMap_append]
theorem front_perm (A B C L: List Ent):(A++B++C++L).Perm (B++(A++C++L)):=by
 simp only [List.append_assoc];rw [<- List.append_assoc,<- List.append_assoc B];exact List.perm_append_comm.append_right _
theorem opn {s: S} {H': PHeap} (pre g suf: List Nat) (E: List Ent) (hals: als=pre++g++suf) (hE: aents ini sup g s.ax=E) (hS: Step w0 H0 L0 w H' (aents ini sup als s.ax++L)): Step w0 H0 L0 w H' (E++(aents ini sup pre s.ax++aents ini sup suf s.ax++L)):=by
 subst hE;rw [hals,eh] at hS;exact hS.perm (front_perm _ _ _ _)
theorem qown {i: Nat} {dst: Option Nat} {v: Value} {φ: FactS} {s: S} {H': PHeap} {E: List Ent} (pre g suf: List Nat) (hals: als=pre++g++suf) (hni: freeOf sup i (pre++suf)=true) (hfr: s.ax i=none) (hle: Le s.H H') (hd: a.defers=D) (hv0: ∀ d,dst=some d->a.tmps[d]? =some v)
  (hS: Step w0 H0 L0 w H' (E++(aents ini sup pre s.ax++aents ini sup suf s.ax++L))) (hg': aents ini sup g (upd s.ax i E)=E\/aents ini sup g (upd s.ax i E)= []) (hv: φ ⟨H',upd s.ax i E⟩ v) :
  ∃ s' v,RlS s s'/\(∀ j,j≠i->s.ax j=none->s'.ax j=none)/\Step w0 H0 L0 w s'.H (aents ini sup als s'.ax++L)/\((∀ d',dst=some d'->a.tmps[d']? =some v)/\φ s' v)/\a.defers=D:=by
 refine⟨⟨H',upd s.ax i E⟩,v,⟨hle,fun j F hj=>?_⟩,fun j hj hn=>?_,?_,⟨hv0,hv⟩,hd⟩
 ·show upd s.ax i E j=_
  rw [f4 _ _ (fun e=>by subst e;rw [hfr] at hj;cases hj)];exact hj
 ·show upd s.ax i E j=_
  rw [f4 _ _ hj];exact hn
 ·show Step _ _ _ _ _ (aents ini sup als (upd s.ax i E)++L)
  unfold freeOf at hni;rw [List.all_append,Bool.and_eq_true] at hni
  rcases hg' with hg' | hg'
  ·rw [hals,eh,ec hni.1,ec hni.2,hg'];exact hS.perm (front_perm _ _ _ _).symm
  ·rw [hals,eh,ec hni.1,ec hni.2,hg',List.append_nil];exact Step.dropN _ _ hS
def sl: List (Nat × Nat)->Nat->Option Nat
 | [],_=>none
 |(a,b)::r,i=>bif Nat.beq a i then some b else sl r i
def il: List (Nat × List Ent)->Nat->List Ent
 | [],_=> []
 |(a,E)::r,i=>bif Nat.beq a i then E else il r i
theorem con1 {i: Nat} {E: List Ent} {ax: Nat->Option (List Ent)}: aents ini sup [i] (upd ax i E)=E\/aents ini sup [i] (upd ax i E)= []:=by
 unfold aents;rw [List.flatMap_cons,List.flatMap_nil,List.append_nil];unfold conE;rw [upd_at,Option.getD_some]
 generalize (match sup i with | some j=>(upd ax i E j).isSome | none=>false)=b
 cases b
 ·exact .inl J
 ·exact .inr J
theorem con0 {i: Nat} {ax: Nat->Option (List Ent)} (hfr: ax i=none) (hini: ini i= []): aents ini sup [i] ax= []:=by
 unfold aents;rw [List.flatMap_cons,List.flatMap_nil,List.append_nil];unfold conE;rw [hfr,Option.getD_none,hini]
 generalize (match sup i with | some j=>(ax j).isSome | none=>false)=b
 cases b <;> rfl
theorem con2 {q i: Nat} {E: List Ent} {ax: Nat->Option (List Ent)} (hq: sup q=some i) (hi: sup i=none) (hini: ini i= []) (hx: ax q=some E) (hfr: ax i=none): aents ini sup [q,i] ax=E:=by
 unfold aents;rw [List.flatMap_cons,List.flatMap_cons,List.flatMap_nil,List.append_nil];unfold conE;simp only [hq,hi,hx,hfr,hini,Option.isSome_none,cond_false,Option.getD_some,Option.getD_none,List.append_nil]
theorem con2' {q i: Nat} {E: List Ent} {ax: Nat->Option (List Ent)} (hq: sup q=some i) (hi: sup i=none): aents ini sup [q,i] (upd ax i E)=E:=by
 unfold aents;rw [List.flatMap_cons,List.flatMap_cons,List.flatMap_nil,List.append_nil];unfold conE;simp only [hq,hi,upd_at,Option.isSome_some,cond_true,cond_false,Option.getD_some,List.nil_append]
theorem has_at {d: Nat} {v: Value} (ha: Has D a N ((d,v)::m)): ∀ d',some d=some d'->a.tmps[d']? =some v:=fun d' h=>by rw [<- Option.some.inj h];exact ha.get d v (by simp [lk])
end
end Go.Vk.As
namespace Go.Vk
open Go.RowKit
def bdJ {τ: Type} (bb: τ->Int->τ) (s: List Tm × τ) (v: Int) (t: Tm): Bool ×(List Tm × τ):=
 if (!decide (t.kind=1)&&occB s.1 v t)=true then (false,s) else (true,(s.1.set v.toNat t,bb s.2 v))
theorem Gst.set {n: Nat} {B: List Tm} (h: Gst n B) {v: Int} {t: Tm} (hb: BC n B v t): Gst n (B.set v.toNat t):=by
 have h1:=hb.lo;have h2:=hb.hi;refine⟨by rw [List.length_set];exact h.len,h.le,fun i u hi=>?_⟩;rw [List.getElem?_set] at hi
 split at hi
 ·rename_i e
  split at hi
  ·obtain rfl:=Option.some.inj hi;refine .inr ⟨hb.ok,fun hk=>?_⟩;have:=hb.dn hk;omega
  ·cases hi
 ·exact h.el i u hi
def bdE (s: Unit) (v: Int) (t: Tm): Bool × Unit:=(false,s)
def eqW (B: List Tm) (a b: Tm): Bool × Int:=(wlk (fun _=>B) bdE 20000 [(a,b)] ()).1
def joinW {τ: Type} (bb: τ->Int->τ) (B: List Tm) (s: τ) (a b: Tm):(Bool × Int) ×(List Tm × τ):=wlk Prod.fst (bdJ bb) 20000 [(a,b)] (B,s)
end Go.Vk
namespace Go.Vk
def mrk (st: List Int) (v: Int): Int:=st.getD v.toNat 0
def inn (st: List Int): List Int->List Int->Option (List Int)
 | [],todo=>some todo
 | x::xs,todo=>if mrk st x=1 then none else if mrk st x=0 then inn st xs (x::todo) else inn st xs todo
def bnd (B: List Tm) (v: Int): Tm:=B.getD v.toNat default
def mid (B: List Tm): Nat->List Int->List Int->Option (List Int)
 | 0,st,_=>some st
 | _+1,st, []=>some st
 | f+1,st,v::ts=>if mrk st v≠0 then mid B f (st.set v.toNat 2) ts else
  match inn (st.set v.toNat 1) (occ (bnd B v)) (v::ts) with
  | none=>none
  | some td=>mid B f (st.set v.toNat 1) td
def unv: List Tm->List Int->Nat
 | t::ts,x::xs=>(if x=0 then (occ t).length+1 else 0)+unv ts xs
 | _,_=>0
def mmeas (B: List Tm) (st todo: List Int): Nat:=todo.length+unv B st
def MID (B: List Tm) (st todo: List Int): Option (List Int):=mid B (mmeas B st todo+1) st todo
def circF (B: List Tm): Nat->Nat->List Int->Bool
 | 0,_,_=>false
 | k+1,i,st=>match MID B st [(i: Int)] with
  | none=>true
  | some st'=>circF B k (i+1) st'
def circB (B: List Tm): Bool:=circF B B.length 0 (List.replicate B.length 0)
section
variable {B: List Tm} {st ts td: List Int} {v: Int}
end
theorem AllV.occ {n: Nat} {ts: List Tm} (h: AllV n ts) {t: Tm} (ht: t ∈ ts): ∀ x ∈ Vk.occ t,0<=x/\x < n:=by
 have key: ∀ k t,Tm.sz t<=k->overR (n: Int) t=true->∀ x ∈ Vk.occ t,0<=x/\x < n:=by
  intro k
  induction k with
  | zero=>intro t ht;have:=t.sz_pos;omega
  | succ k ih =>
   intro t hk ho x hx;rw [go] at hx
   split at hx
   ·rename_i h1
    rw [List.mem_singleton] at hx;subst hx;exact cg ho h1
   ·have key2: ∀ ts: List Tm,(∀ u ∈ ts,Tm.sz u<=k/\overR (n: Int) u=true)->∀ x ∈ occL ts,0<=x/\x < n:=by
     intro ts
     induction ts with
     | nil=>intro _ x hx;rw [occL] at hx;cases hx
     | cons u us ih2 =>
      intro hh x hx;rw [occL] at hx
      rcases List.mem_append.1 hx with hx | hx
      ·exact ih u (hh u List.mem_cons_self).1 (hh u List.mem_cons_self).2 x hx
      ·exact ih2 (fun v hv=>hh v (List.mem_cons_of_mem _ hv)) x hx
    refine key2 t.l (fun u hu=>⟨?_,overR_sub ho u hu⟩) x hx;have:=szL_mem hu;rw [t.sz_eq] at hk;omega
 exact key t.sz t (Nat.le_refl _) (h t ht)
theorem AllV.bnd {B: List Tm} (h: AllV B.length B): ∀ v: Int,∀ x ∈ Vk.occ (Vk.bnd B v),x.toNat < B.length:=by
 intro v x hx;unfold Vk.bnd at hx;rw [List.getD_eq_getElem?_getD] at hx
 cases hb: B[v.toNat]? with
 | none=>rw [hb] at hx;cases hx
 | some t =>
  rw [hb] at hx;have:=h.occ (List.mem_of_getElem? hb) x hx;omega
end Go.Vk
namespace Go.Vk
theorem formB_nodeR (t: Tm):(decide (t.kind < 1)||(decide (6 < t.kind)||!formB t.kind t))=!nodeR t:=by
 unfold formB nodeR
 by_cases h1: t.kind=1
 ·rw [if_pos h1,if_pos h1,h1];unfold form1 bareB;rw [Bool.eq_iff_iff];simp
  constructor <;> intro h <;>(rcases h with ((h | h) | h) | h <;> simp [h])
 rw [if_neg h1,if_neg h1]
 by_cases h2: t.kind=2
 ·rw [if_pos h2,if_pos h2,h2];unfold form2 bareB;rw [Bool.eq_iff_iff];simp
  constructor <;> intro h <;>(rcases h with ((h | h) | h) | h <;> simp [h])
 rw [if_neg h2,if_neg h2]
 by_cases h3: t.kind=3
 ·rw [if_pos h3,if_pos h3,h3];unfold form3 bareB;rw [Bool.eq_iff_iff];simp
  constructor <;> intro h <;>(rcases h with (h | h) | h <;> simp [h])
 rw [if_neg h3,if_neg h3]
 by_cases h4: t.kind=4
 ·rw [if_pos h4,if_pos h4,h4];unfold form4 bareB;rw [Bool.eq_iff_iff];simp
  constructor <;> intro h <;>(rcases h with (h | h) | h <;> simp [h])
 rw [if_neg h4,if_neg h4]
 by_cases h5: t.kind=5
 ·rw [if_pos h5,if_pos h5,h5];unfold form5 bareB;rw [Bool.eq_iff_iff];simp
 rw [if_neg h5,if_neg h5]
 by_cases h6: t.kind=6
 ·rw [if_pos h6,h6];unfold form6 bareB;rw [Bool.eq_iff_iff];simp
 rw [if_neg h6];have: t.kind < 1\/6 < t.kind:=by omega
 rcases this with h | h
 ·rw [decide_eq_true h];simp
 ·rw [decide_eq_true h];simp
theorem badB_eq (left deep: Int) (t: Tm): badB left deep t=(decide (deep < 1)||(decide (left < 1)||!nodeR t)):=by
 unfold badB;rw [formB_nodeR]
mutual
theorem cnt_spec: ∀(t: Tm) (left deep: Int),cnt left deep t=if nodesR t=true/\(dep t: Int)<=deep/\(t.sz: Int)<=left then (t.sz: Int) else left+1
 | .mk k n s l,left,deep=>by
  have hz:(Tm.mk k n s l).sz=1+Tm.szL l:=Tm.sz_eq _;have hd: dep (.mk k n s l)=depL l+1:=gi _;have hn: nodesR (.mk k n s l)=(nodeR (.mk k n s l)&&nodesRL l):=bF _;have h0: cnt left deep (.mk k n s l)=if (decide (deep < 1)||(decide (left < 1)||!nodeR (.mk k n s l)))=true then left+1 else cntL left deep 1 l:=by rw [cQ,badB_eq];rfl
  rw [h0]
  by_cases hb:(decide (deep < 1)||(decide (left < 1)||!nodeR (.mk k n s l)))=true
  ·rw [if_pos hb,if_neg];rintro⟨h1,h2,h3⟩;rw [hn,Bool.and_eq_true] at h1;simp only [Bool.or_eq_true,decide_eq_true_eq,Bool.not_eq_true'] at hb
   rcases hb with h | h | h
   ·omega
   ·omega
   ·rw [h1.1] at h;cases h
  ·rw [if_neg hb];simp only [Bool.or_eq_true,decide_eq_true_eq,Bool.not_eq_true',not_or,Bool.not_eq_false] at hb;rw [cntL_spec l left deep 1 (by omega) (by omega)]
   by_cases h: nodesRL l=true/\(depL l: Int)<=deep - 1/\1+(Tm.szL l: Int)<=left
   ·rw [if_pos h,if_pos ⟨by rw [hn,hb.2.2,h.1];rfl,by omega,by omega⟩];omega
   ·rw [if_neg h,if_neg];rintro⟨h1,h2,h3⟩;rw [hn,Bool.and_eq_true] at h1;exact h ⟨h1.2,by omega,by omega⟩
theorem cntL_spec: ∀(ts: List Tm) (left deep n: Int),1<=deep->n<=left->cntL left deep n ts=if nodesRL ts=true/\(depL ts: Int)<=deep - 1/\n+(Tm.szL ts: Int)<=left then n+(Tm.szL ts: Int) else left+1
 | [],left,deep,n,hd,hn=>by
  rw [cntL,nodesRL,depL,Tm.szL,if_pos ⟨rfl,by omega,by omega⟩];simp
 | t::ts,left,deep,n,hd,hn=>by
  rw [cntL,nodesRL,depL,Tm.szL,cnt_spec t (left - n) (deep - 1)];have hz:=t.sz_pos
  by_cases h: nodesR t=true/\(dep t: Int)<=deep - 1/\(t.sz: Int)<=left - n
  ·rw [if_pos h,if_neg (by omega),cntL_spec ts left deep (n+t.sz) hd (by omega),h.1,Bool.true_and]
   by_cases h2: nodesRL ts=true/\(depL ts: Int)<=deep - 1/\n+(t.sz: Int)+(Tm.szL ts: Int)<=left
   ·rw [if_pos h2,if_pos ⟨h2.1,by omega,by omega⟩];omega
   ·rw [if_neg h2,if_neg];rintro⟨h3,h4,h5⟩;exact h2 ⟨h3,by omega,by omega⟩
  ·rw [if_neg h,if_pos (by omega),if_neg];rintro⟨h3,h4,h5⟩;rw [Bool.and_eq_true] at h3;exact h ⟨h3.1,by omega,by omega⟩
end
theorem cX (t: Tm): isTm t=isR t:=by
 unfold isTm isR;rw [chkAll,cnt_spec]
 by_cases h: nodesR t=true/\(dep t: Int)<=600/\(t.sz: Int)<=4000
 ·rw [if_pos h,if_neg j0,chkAll,h.1,decide_eq_true h.2.1,decide_eq_true h.2.2];rfl
 ·rw [if_neg h,if_pos j0]
  symm
  rw [Bool.eq_false_iff];intro hh;simp only [Bool.and_eq_true,decide_eq_true_eq] at hh;exact h ⟨hh.2,hh.1.2,hh.1.1⟩
def elU (n i: Nat) (t: Tm): Bool:=freeB t||(okT n t&&!(decide (t.kind=1)&&decide ((i: Int)<=t.n)))
def elsU (n: Nat): Nat->List Tm->Bool
 | _, []=>true
 | i,t::ts=>elU n i t&&elsU n (i+1) ts
def stU (B: List Tm): Bool:=(decide (((B.length: Nat): Int)<=100000)&&elsU B.length 0 B)&&!circB B
theorem elsU_get {n: Nat}: ∀ {ts: List Tm} {i j: Nat} {t: Tm},elsU n i ts=true->ts[j]? =some t->elU n (i+j) t=true
 | [],i,j,t,_,h=>by simp at h
 | u::ts,i,0,t,hh,h=>by
  obtain rfl: u=t:=by simpa using h
  rw [elsU,Bool.and_eq_true] at hh;exact hh.1
 | u::ts,i,j+1,t,hh,h=>by
  rw [elsU,Bool.and_eq_true] at hh;have:=elsU_get (i:=i+1) hh.2 (by simpa using h)
  rwa [show i+1+j=i+(j+1) by omega] at this
theorem elU_iff {n i: Nat} {t: Tm}: elU n i t=true↔(freeB t=true\/(okT n t=true/\(t.kind=1->t.n < i))):=by
 unfold elU;simp only [Bool.or_eq_true,Bool.and_eq_true,Bool.not_eq_true',Bool.and_eq_false_iff,decide_eq_false_iff_not]
 constructor
 ·rintro(h |⟨h,h2⟩)
  ·exact .inl h
  ·exact .inr ⟨h,fun hk=>by rcases h2 with h2 | h2;exact absurd hk h2;omega⟩
 ·rintro(h |⟨h,h2⟩)
  ·exact .inl h
  ·refine .inr ⟨h,?_⟩
   by_cases hk: t.kind=1
   ·have:=h2 hk;exact .inr j0
   ·exact .inl hk
theorem elsU_mk {n: Nat}: ∀ {ts: List Tm} {i: Nat},(∀(j: Nat) (t: Tm),ts[j]? =some t->elU n (i+j) t=true)->elsU n i ts=true
 | [],i,_=>rfl
 | t::ts,i,h=>by
  rw [elsU,Bool.and_eq_true];refine⟨h 0 t J,elsU_mk fun j u hj=>?_⟩;rw [show i+1+j=i+(j+1) by omega];exact h (j+1) u (by simpa using hj)
theorem Gst.of {B: List Tm} (h1: B.length<=100000) (h: elsU B.length 0 B=true): Gst B.length B:=
 ⟨rfl,h1,fun i t hi=>by have:=elsU_get h hi;rw [Nat.zero_add] at this;exact elU_iff.1 this⟩
end Go.Vk
namespace Go.Vk
open Go.RowKit
def stE (B: List Tm): Int:=if stU B then 0 else 30
def gvE (B: List Tm) (ts: List Tm): Int:=if stU B=true then (if ts.all (okT B.length)=true then 0 else 3) else 30
def joinQ (B: List Tm) (a b: Tm):(Bool × Int) ×(List Tm × Unit):=joinW (fun(s: Unit) _=>s) B () a b
def askU (B: List Tm) (a b: Tm):(Int × List Int) × Int:=
 if gvE B [a,b]=0 then
  if (eqW B a b).2=0 then
   if (eqW B a b).1=true then ((1, []),0)
   else if (joinQ B a b).1.2=0 then (if (joinQ B a b).1.1=true then ((3,(VF B (fun _=>false) [a,b] [] []).2),0) else ((2, []),0))
   else ((0, []),(joinQ B a b).1.2)
  else ((0, []),(eqW B a b).2)
 else ((0, []),gvE B [a,b])
def extS (s: List Tm) (m: Int): List Tm:=s++List.replicate m.toNat Tm.zero
theorem extS_len (s: List Tm) (m: Int):(extS s m).length=s.length+m.toNat:=by unfold extS;simp
theorem overR_more {n m: Int} (h: n<=m): ∀ t: Tm,overR n t=true->overR m t=true:=by
 refine Tm.ind fun t ih=>?_;intro ho;rw [d8,dO] at ho ⊢;rw [Bool.and_eq_true] at ho ⊢;refine⟨?_,List.all_eq_true.2 fun u hu=>?_⟩
 ·have h1:=ho.1;simp only [Bool.not_eq_true',Bool.and_eq_false_iff,Bool.or_eq_false_iff,decide_eq_false_iff_not] at h1 ⊢
  rcases h1 with h1 | h1
  ·exact .inl h1
  ·exact .inr ⟨h1.1,by omega⟩
 ·obtain⟨j,hj⟩:=List.getElem?_of_mem hu;exact ih j u hj (List.all_eq_true.1 ho.2 u hu)
theorem okT_more {n m: Nat} {t: Tm} (h: n<=m) (ht: okT n t=true): okT m t=true:=okT_mk (gw ht) (overR_more j0 t (gv ht))
theorem freeB_zero': freeB Tm.zero=true:=by unfold freeB;rfl
theorem Gst.ext {n: Nat} {B: List Tm} (h: Gst n B) {m: Int} (hm: n+m.toNat<=100000): Gst (n+m.toNat) (extS B m):=by
 refine⟨by rw [extS_len,h.len],hm,fun i t hi=>?_⟩;unfold extS at hi;rw [List.getElem?_append] at hi
 split at hi
 ·rcases h.el i t hi with h1 | h1
  ·exact .inl h1
  ·exact .inr ⟨okT_more j0 h1.1,h1.2⟩
 ·rw [List.getElem?_replicate] at hi
  split at hi
  ·obtain rfl:=Option.some.inj hi;exact .inl freeB_zero'
  ·cases hi
def difS (s u: List Tm): Int:=((u.length: Nat): Int) - ((s.length: Nat): Int)
def impL (B: List Tm): Nat->List Tm->Bool × Int
 | _, []=>(true,0)
 | i,t::ts=>if t.kind=0 then impL B (i+1) ts else
  if (!decide ((eqW B (vr i) t).2=0)||!(eqW B (vr i) t).1)=true then (false,(eqW B (vr i) t).2) else impL B (i+1) ts
def impU (s u: List Tm): Bool × Int:=if (!decide (stE s=0)||!decide (stE u=0))=true then (false,30) else impL (extS s (difS s u)) 0 u
end Go.Vk
namespace Go.Vk
open Go.RowKit
section
variable {P: Program} {K: Act->World->Prop} {Q: Exit->Act->World->Prop} {D: List Deferred} {a: Act} {w: World} {N: Nat} {m: Env} {d: Nat} {ty: TypeId} {pos: String} {aft: Array Edge} {g: Option (Nat × Bool)} {w0: World} {H0 H: PHeap} {L0 L: List Ent}
section
variable {x y: Operand} {t e tx: TypeId} {de: TypeDesc} {sze be: Nat} {ze: Value} {p: Addr}
theorem ptr_nil_eq (ht: P.underlying t=some (.pointer e)) (Te: Ty P e de sze be ze):(Op.equal t (.pointer (some p)) (.pointer none)).run P w=.ok false w:=by
 have h: ∀ d: Nat,(Op.equalIn (d+1) t (.pointer (some p)) (.pointer none)).run P w=.ok false w:=fun d=>by
  simp [Op.equalIn,run_underlying ht,Te.run_sizeOf]
 simp [Op.equal,Op.maxDepth,h 9999]
theorem nil_nil_eq (ht: P.underlying t=some (.pointer e)) (Te: Ty P e de sze be ze):(Op.equal t (.pointer none) (.pointer none)).run P w=.ok true w:=by
 have h: ∀ d: Nat,(Op.equalIn (d+1) t (.pointer none) (.pointer none)).run P w=.ok true w:=fun d=>by
  simp [Op.equalIn,run_underlying ht,Te.run_sizeOf]
 simp [Op.equal,Op.maxDepth,h 9999]
theorem aT (ht: P.underlying t=some (.pointer e)) (Te: Ty P e de sze be ze) (ha: Has D a N m) (hx: ev m x=some (.pointer (some p))) (hy: ev m y=some (.pointer none)) (hd: Nat.blt d N=true) (k: ∀ a',Has D a' N ((d,.bool false)::m)->K a' w) :
  Oper.wp P ⟨some d,.binOp .eql t x y tx,ty,pos,aft,g⟩ a w K Q:=
 aM (by simp [execOp,ha.ev hx,ha.ev hy,eqGuard,binOp,ptr_nil_eq ht Te]) ha hd k
theorem dj (ht: P.underlying t=some (.pointer e)) (Te: Ty P e de sze be ze) (ha: Has D a N m) (hx: ev m x=some (.pointer none)) (hy: ev m y=some (.pointer none)) (hd: Nat.blt d N=true) (k: ∀ a',Has D a' N ((d,.bool true)::m)->K a' w) :
  Oper.wp P ⟨some d,.binOp .eql t x y tx,ty,pos,aft,g⟩ a w K Q:=
 aM (by simp [execOp,ha.ev hx,ha.ev hy,eqGuard,binOp,nil_nil_eq ht Te]) ha hd k
end
end
section
variable {P: Program} {Q: Exit->Act->World->Prop} {D: List Deferred} {N: Nat} {E: Env} {w0: World} {H0 H: PHeap} {L0 L: List Ent}
end
end Go.Vk
namespace Go.Vk
open Go.RowKit
section
variable {P: Program} {Q: Exit->Act->World->Prop} {D: List Deferred} {a: Act} {w: World} {N: Nat} {m: Env} {ops: Array Oper} {rest: List Oper} {o: Oper} {d: Nat} {ty: TypeId} {pos: String} {aft: Array Edge} {x: Operand} {v: Value}
theorem Lm (h:(ev m x,Nat.blt d N)=(some v,true)) (ha: Has D a N m) (k: ∀ a',Has D a' N ((d,v)::m)->wpList P ops Q rest a' w): wpList P ops Q (⟨some d,.move x,ty,pos,aft,none⟩ ::rest) a w:=
 lin J (aq ha (congrArg Prod.fst h) (congrArg Prod.snd h) k)
theorem Ls (h:(ev m x,Nat.blt d N)=(some v,true)) (ha: Has D a N m) (k: ∀ a',Has D a' N ((d,v)::m)->wpList P ops Q rest a' w): wpList P ops Q (⟨some d,.assign x,ty,pos,aft,none⟩ ::rest) a w:=
 lin J (bu ha (congrArg Prod.fst h) (congrArg Prod.snd h) k)
theorem Lf {g t: Nat} {b b': Bool} (h1:(o.guard,o.dst,Nat.blt d N)=(some (g,b),some d,true)) (ha: Has D a N m) (h2:(ops[g]?.map Oper.dst,lk m t)=(some (some t),some (.bool b'))) (hne:(b' == b)=false) (h: ∀ a',Has D a' N ((d,undef)::m)->wpList P ops Q rest a' w): wpList P ops Q (o::rest) a w:=by
 have e1:=congrArg Prod.fst h1;have e2:=congrArg (fun p=>p.2.1) h1;have e3:=congrArg (fun p=>p.2.2) h1;have e4:=congrArg Prod.fst h2;have e5:=congrArg Prod.snd h2
 cases ho: ops[g]? with
 | none=>simp [ho] at e4
 | some og =>
  simp only [ho,Option.map_some,Option.some.injEq] at e4;exact lin_off e1 hne e2 e3 ha ho e4 e5 h
theorem Dd {l: List Oper} {Φ: List Fact} {H: PHeap} {E: Env} (ha: Has D a N E) (h: ∀(i: Nat) (o: Oper) (d: Nat) (φ: Fact),l[i]? =some o->o.dst=some d->Φ[i]? =some φ->∃ v,a.tmps[d]? =some v/\φ H v) (i: Nat) {φ: Fact} (e:(l[i]?.map Oper.dst,Φ[i]?)=(some (some d),some φ)): ∃ v,Has D a N ((d,v)::E)/\φ H v:=by
 have e1:=congrArg Prod.fst e;have e2:=congrArg Prod.snd e
 cases ho: l[i]? with
 | none=>simp [ho] at e1
 | some oj =>
  simp only [ho,Option.map_some,Option.some.injEq] at e1;obtain⟨v,h1,h2⟩:=h i oj d φ ho e1 e2;exact⟨v,ha.add h1,h2⟩
end
section
variable {P: Program} {Q: Exit->Act->World->Prop} {D: List Deferred} {N: Nat} {E E': Env} {w0: World} {H0 H: PHeap} {L0 L: List Ent} {Rl: PHeap->PHeap->Prop}
theorem Dep.g {l: List Oper} {Φ: List Fact} {o: Oper} {a: Act} {d: Nat} (ha: Has D a N E) (h: Dep l Φ o a H) (j: Nat) {φ: Fact} (e:((o.after.toList.any fun e=>Region.binds .any e&&Nat.beq e.on j),l[j]?.map Oper.dst,Φ[j]?)=(true,some (some d),some φ)): ∃ v,Has D a N ((d,v)::E)/\φ H v:=by
 have e0:=congrArg Prod.fst e;have e1:=congrArg (fun p=>p.2.1) e;have e2:=congrArg (fun p=>p.2.2) e
 cases ho: l[j]? with
 | none=>simp [ho] at e1
 | some oj =>
  simp only [ho,Option.map_some,Option.some.injEq] at e1;obtain⟨v,h1,h2⟩:=h.get j e0 oj ho d e1 φ e2;exact⟨v,ha.add h1,h2⟩
theorem Qz {l: List Oper} {Φ: List Fact} {o: Oper} {φ: Fact} (hg: o.guard=none) (h: ∀ a w,Step w0 H0 L0 w H L->Has D a N E->Dep l Φ o a H->Oper.wp P o a w (fun a' w'=> ∃ H'' v,H=H''/\Step w0 H0 L0 w' H'' L/\(∀ d,o.dst=some d->a'.tmps[d]? =some v/\φ H'' v)/\a'.defers=D) Q): Quiet Eq P l Φ D N E w0 H0 L0 H L Q o φ:=by
 intro a w H' hle hS ha hd;subst hle;rw [if_pos (cr hg)];exact h a w hS ha hd
theorem Qy {l: List Oper} {Φ: List Fact} {o: Oper} {φ: Fact} (hg: o.guard=none) (h: ∀ a w H',Rl H H'->Step w0 H0 L0 w H' L->Has D a N E->Dep l Φ o a H'->Oper.wp P o a w (fun a' w'=> ∃ H'' v,Rl H' H''/\Step w0 H0 L0 w' H'' L/\(∀ d,o.dst=some d->a'.tmps[d]? =some v/\φ H'' v)/\a'.defers=D) Q): Quiet Rl P l Φ D N E w0 H0 L0 H L Q o φ:=by
 intro a w H' hle hS ha hd;rw [if_pos (cr hg)];exact h a w H' hle hS ha hd
end
end Go.Vk
namespace Go.Vk.As
open Go.RowKit
section
variable {P: Program} {Q: Exit->Act->World->Prop} {D: List Deferred} {N: Nat} {E: Env} {w0: World} {H0 H: PHeap} {L0 L: List Ent} {s0: S} {als: List Nat} {ini: Nat->List Ent} {sup: Nat->Option Nat} {d: Nat}
theorem Dep.g {l: List Oper} {Φ: List FactS} {i: Nat} {o: Oper} {a: Act} {s: S} (ha: Has D a N E) (h: Dep l Φ i o a s) (j: Nat) {φ: FactS} (e:((o.after.toList.any fun e=>Region.binds .any e&&Nat.beq e.on j),l[j]?.map Oper.dst,Φ[j]?)=(true,some (some d),some φ)): ∃ v,Has D a N ((d,v)::E)/\φ s v:=by
 have e0:=congrArg Prod.fst e;have e1:=congrArg (fun p=>p.2.1) e;have e2:=congrArg (fun p=>p.2.2) e
 cases ho: l[j]? with
 | none=>simp [ho] at e1
 | some oj =>
  simp only [ho,Option.map_some,Option.some.injEq] at e1;obtain⟨v,h1,h2⟩:=h.get j e0 oj ho φ e2;exact⟨v,ha.add (h1 d e1),h2⟩
theorem Qx {l: List Oper} {Φ: List FactS} {o: Oper} {φ: FactS} {i: Nat} (hg: o.guard=none) (h: ∀(a: Act) (w: World) (H': PHeap) (ax_: Nat->Option (List Ent)),Le H H'->ax_ i=none->Step w0 H0 L0 w H' (aents ini sup als ax_++L)->Has D a N E->Dep l Φ i o a ⟨H',ax_⟩->RlS ⟨H,fun _=>none⟩ ⟨H',ax_⟩->Oper.wp P o a w (fun a' w'=> ∃ s' v,RlS ⟨H',ax_⟩ s'/\(∀ j,j≠i->ax_ j=none->s'.ax j=none)/\Step w0 H0 L0 w' s'.H (aents ini sup als s'.ax++L)/\((∀ d,o.dst=some d->a'.tmps[d]? =some v)/\φ s' v)/\a'.defers=D) Q): Quiet ini sup als P l Φ D N E w0 H0 L0 ⟨H,fun _=>none⟩ L Q i o φ:=by
 rintro a w ⟨H',ax⟩ hls hax hS ha hd;rw [if_pos (cr hg)];exact h a w H' ax hls.le hax hS ha hd hls
end
end Go.Vk.As
namespace Go.Vk
open Go.RowKit
theorem Mq {Φ: List Fact}: Monos Eq Φ:=fun φ _ H H' v e h=>by cases e;exact h
theorem M1 {Rl: PHeap->PHeap->Prop} {φ: Value->Prop} {Φ: List Fact} (h: Monos Rl Φ): Monos Rl ((fun _ v=>φ v)::Φ):=Monos.cons (fun _ _ _ _ h=>h) h
theorem As.M1 {φ: Value->Prop} {Φ: List FactS} (h: As.Monos Φ): As.Monos ((fun _ v=>φ v)::Φ):=As.Monos.cons (fun _ _ _ _ h=>h) h
theorem Quiets.c2 {C: Oper->Fact->Prop} {l: List Oper} {Φ: List Fact} {o1 o2: Oper} {p1 p2: Fact} (h1: C o1 p1) (h2: C o2 p2) (h: Quiets C l Φ): Quiets C (o1::o2::l) (p1::p2::Φ):=.cons h1 (.cons h2 h)
theorem Quiets.c4 {C: Oper->Fact->Prop} {l: List Oper} {Φ: List Fact} {o1 o2 o3 o4: Oper} {p1 p2 p3 p4: Fact} (h1: C o1 p1) (h2: C o2 p2) (h3: C o3 p3) (h4: C o4 p4) (h: Quiets C l Φ): Quiets C (o1::o2::o3::o4::l) (p1::p2::p3::p4::Φ):=.c2 h1 h2 (.c2 h3 h4 h)
theorem As.QuietsI.c2 {C: Nat->Oper->FactS->Prop} {i: Nat} {l: List Oper} {Φ: List FactS} {o1 o2: Oper} {p1 p2: FactS} (h1: C i o1 p1) (h2: C (i+1) o2 p2) (h: As.QuietsI C (i+1+1) l Φ): As.QuietsI C i (o1::o2::l) (p1::p2::Φ):=.cons h1 (.cons h2 h)
theorem As.QuietsI.c4 {C: Nat->Oper->FactS->Prop} {i: Nat} {l: List Oper} {Φ: List FactS} {o1 o2 o3 o4: Oper} {p1 p2 p3 p4: FactS} (h1: C i o1 p1) (h2: C (i+1) o2 p2) (h3: C (i+1+1) o3 p3) (h4: C (i+1+1+1) o4 p4) (h: As.QuietsI C (i+1+1+1+1) l Φ): As.QuietsI C i (o1::o2::o3::o4::l) (p1::p2::p3::p4::Φ):=.c2 h1 h2 (.c2 h3 h4 h)
section
variable {P: Program} {Q: Exit->Act->World->Prop} {K: Act->World->Prop} {D: List Deferred} {N: Nat} {m E: Env} {w0 w: World} {H0 H H': PHeap} {L0 L: List Ent} {a: Act} {Rl: PHeap->PHeap->Prop} {d: Nat} {v: Value} {ty: TypeId} {pos: String} {aft: Array Edge} {g: Option (Nat × Bool)}
theorem qe (ha: Has D a N ((d,v)::m)) (hS: Step w0 H0 L0 w H L): ∃ H'' v',H=H''/\Step w0 H0 L0 w H'' L/\(∀ d',some d=some d'->a.tmps[d']? =some v'/\v'=v)/\a.defers=D:=qdone (φ:=fun _ u=>u=v) J ha hS J
theorem ql (ha: Has D a N ((d,v)::m)) (hS: Step w0 H0 L0 w H L): ∃ H'' v',Le H H''/\Step w0 H0 L0 w H'' L/\(∀ d',some d=some d'->a.tmps[d']? =some v'/\v'=v)/\a.defers=D:=qdone (φ:=fun _ u=>u=v) (Le.refl _) ha hS J
theorem Co {fn: FuncId} {f: Func} {c: Code} {xs: List Operand} {ts: Array TypeId} {vs: List Value} {R: Ending→World→Prop} (hf: P.funcs[fn]? =some f) (ha: Has D a N m) (e:(f.body,f.name == "runtime.NumGoroutine",evs m xs,Nat.blt d N)=(some c,false,some vs,true)) (hc: Calls P fn vs.toArray w R) (k: ∀ e w',R e w'→∃ v,e=.returned v∧∀ a',Has D a' N ((d,v)::m)→K a' w') :
  Oper.wp P ⟨some d,.call { callee:=.value (.func fn),args:=xs.toArray,argTypes:=ts },ty,pos,aft,g⟩ a w K Q:=
 aC hf (congrArg Prod.fst e) (congrArg (fun p=>p.2.1) e) (ha.evs (congrArg (fun p=>p.2.2.1) e)) ha (congrArg (fun p=>p.2.2.2) e) hc k
theorem Cs {fn: FuncId} {f: Func} {c: Code} {xs: List Operand} {ts: Array TypeId} {vs: List Value} (hf: P.funcs[fn]? =some f) (ha: Has D a N m) (e:(f.body,f.name == "runtime.NumGoroutine",evs m xs,Nat.blt d N)=(some c,false,some vs,true)) (hc: Calls P fn vs.toArray w (Rs w H v)) (hS: Step w0 H0 L0 w H L) (k: ∀ a' w',Has D a' N ((d,v)::m)→Step w0 H0 L0 w' H L→K a' w') :
  Oper.wp P ⟨some d,.call { callee:=.value (.func fn),args:=xs.toArray,argTypes:=ts },ty,pos,aft,g⟩ a w K Q:=
 Co hf ha e hc fun e w' h=>⟨v,h.1,fun a' ha=>k a' w' ha (hS.call h.2)⟩
theorem depg {l: List Oper} {Φ: List Fact} {o: Oper} (ha: Has D a N E) (h: Dep l Φ o a H) (j: Nat) {x: Value} (e:((o.after.toList.any fun e=>Region.binds .any e&&Nat.beq e.on j),l[j]?.map Oper.dst,Φ[j]?)=(true,some (some d),some (fun _ v=>v=x))): Has D a N ((d,x)::E):=by
 obtain⟨_,h1,rfl⟩:=Dep.g ha h j e;exact h1
theorem Qz1 {l: List Oper} {Φ: List Fact} {o: Oper} {φ: Fact} {x: Value} (j: Nat) (e:(o.guard,(o.after.toList.any fun e=>Region.binds .any e&&Nat.beq e.on j),l[j]?.map Oper.dst,Φ[j]?)=(none,true,some (some d),some (fun _ v=>v=x))) (h: ∀ a w,Step w0 H0 L0 w H L->Has D a N ((d,x)::E)->Dep l Φ o a H->Oper.wp P o a w (fun a' w'=> ∃ H'' v,H=H''/\Step w0 H0 L0 w' H'' L/\(∀ d,o.dst=some d->a'.tmps[d]? =some v/\φ H'' v)/\a'.defers=D) Q): Quiet Eq P l Φ D N E w0 H0 L0 H L Q o φ:=
 Qz (congrArg Prod.fst e) fun a w hS ha hd=>h a w hS (depg ha hd j (congrArg Prod.snd e)) hd
theorem Qy1 {l: List Oper} {Φ: List Fact} {o: Oper} {φ: Fact} {x: Value} (j: Nat) (e:(o.guard,(o.after.toList.any fun e=>Region.binds .any e&&Nat.beq e.on j),l[j]?.map Oper.dst,Φ[j]?)=(none,true,some (some d),some (fun _ v=>v=x))) (h: ∀ a w H',Rl H H'->Step w0 H0 L0 w H' L->Has D a N ((d,x)::E)->Dep l Φ o a H'->Oper.wp P o a w (fun a' w'=> ∃ H'' v,Rl H' H''/\Step w0 H0 L0 w' H'' L/\(∀ d,o.dst=some d->a'.tmps[d]? =some v/\φ H'' v)/\a'.defers=D) Q): Quiet Rl P l Φ D N E w0 H0 L0 H L Q o φ:=
 Qy (congrArg Prod.fst e) fun a w H' hle hS ha hd=>h a w H' hle hS (depg ha hd j (congrArg Prod.snd e)) hd
end
end Go.Vk
namespace Go.Vk.As
open Go.RowKit
section
variable {P: Program} {Q: Exit->Act->World->Prop} {D: List Deferred} {N: Nat} {E m: Env} {w0 w: World} {H0 H: PHeap} {L0 L: List Ent} {a: Act} {als: List Nat} {ini: Nat->List Ent} {sup: Nat->Option Nat} {d i: Nat} {v x: Value}
theorem ql {ax: Nat->Option (List Ent)} (ha: Has D a N ((d,v)::m)) (hS: Step w0 H0 L0 w H (aents ini sup als ax++L)) :
  ∃ s' v',RlS ⟨H,ax⟩ s'/\(∀ j,j≠i->ax j=none->s'.ax j=none)/\Step w0 H0 L0 w s'.H (aents ini sup als s'.ax++L)/\((∀ d',some d=some d'->a.tmps[d']? =some v')/\v'=v)/\a.defers=D:=qdone (s:=⟨H,ax⟩) (φ:=fun _ u=>u=v) (Le.refl _) ha hS J
theorem Dd {l: List Oper} {Φ: List FactS} {s: S} (ha: Has D a N E) (h: ∀(i: Nat) (o: Oper) (φ: FactS),l[i]? =some o->Φ[i]? =some φ->∃ v,(∀ d,o.dst=some d->a.tmps[d]? =some v)/\φ s v) (i: Nat) {φ: FactS} (e:(l[i]?.map Oper.dst,Φ[i]?)=(some (some d),some φ)): ∃ v,Has D a N ((d,v)::E)/\φ s v:=by
 have e1:=congrArg Prod.fst e;have e2:=congrArg Prod.snd e
 cases ho: l[i]? with
 | none=>simp [ho] at e1
 | some oj =>
  simp only [ho,Option.map_some,Option.some.injEq] at e1;obtain⟨v,h1,h2⟩:=h i oj φ ho e2;exact⟨v,ha.add (h1 d e1),h2⟩
theorem Qx1 {l: List Oper} {Φ: List FactS} {o: Oper} {φ: FactS} (j: Nat) (e:(o.guard,(o.after.toList.any fun e=>Region.binds .any e&&Nat.beq e.on j),l[j]?.map Oper.dst,Φ[j]?)=(none,true,some (some d),some (fun _ v=>v=x))) (h: ∀(a: Act) (w: World) (H': PHeap) (ax_: Nat->Option (List Ent)),Le H H'->ax_ i=none->Step w0 H0 L0 w H' (aents ini sup als ax_++L)->Has D a N ((d,x)::E)->Dep l Φ i o a ⟨H',ax_⟩->RlS ⟨H,fun _=>none⟩ ⟨H',ax_⟩->Oper.wp P o a w (fun a' w'=> ∃ s' v,RlS ⟨H',ax_⟩ s'/\(∀ j,j≠i->ax_ j=none->s'.ax j=none)/\Step w0 H0 L0 w' s'.H (aents ini sup als s'.ax++L)/\((∀ d,o.dst=some d->a'.tmps[d]? =some v)/\φ s' v)/\a'.defers=D) Q): Quiet ini sup als P l Φ D N E w0 H0 L0 ⟨H,fun _=>none⟩ L Q i o φ:=
 Qx (congrArg Prod.fst e) fun a w H' ax hle hax hS ha hd hls=>h a w H' ax hle hax hS (by obtain⟨_,h1,rfl⟩:=Dep.g ha hd j (congrArg Prod.snd e);exact h1) hd hls
end
end Go.Vk.As
namespace Go.Vk
def fdL: List Nat->List Ent->Option (List Ent)
 | [],L=>some L
 | 0::ks,_::L=>fdL ks L
 | 0::_, []=>none
 |(i+1)::ks,L=>match L[i]? with
  | some e=>fdL ks (e::L.eraseIdx i)
  | none=>none
theorem Step.fd {w0 w: World} {H0 H: PHeap} {L0: List Ent}: ∀ {L L': List Ent},Step w0 H0 L0 w H L->∀(ks: List Nat),fdL ks L=some L'->Step w0 H0 L0 w H L'
 | L,L',h, [],e=>by rw [fdL] at e;exact Option.some.inj e ▸ h
 | _::L,L',h,0::ks,e=>Step.fd h.drop ks e
 | [],L',h,0::ks,e=>by cases e
 | L,L',h,(i+1)::ks,e=>by
  rw [fdL] at e
  split at e
  ·rename_i x hx
   exact Step.fd (h.front i hx) ks e
  ·cases e
end Go.Vk
namespace Go.Vk.Tryz
open Go.RowKit
theorem ej {w0: World} {H: PHeap} (hI: Inv w0 H []) {t: Tm} {A: Option Addr} {c: Nat} {n s l: Bool} (hr: RowT H A c t.l): Calls prog 169 #[(tv t A c),(.bool n),(.bool s),(.bool l)] w0 (Rs w0 H (.bool (bareB t n s l))):=by
 have G:=Step.refl hI;refine enter [(tv t A c),(.bool n),(.bool s),(.bool l)] func169 J ntmps169 J fun a C=>?_;refine wp_seq (ab (lin J (aG (cs:=(tA t A c)) G C J J J fun a1 a w G C=>?_)));refine Ls J C fun a C=>?_;refine wpList_nil (aa (wp_seq (bH (D:= []) (N:=32) (E:= [(1,(.bool n)),(2,(.bool s)),(3,(.bool l)),(4,(pB a1)),(8,(.bool (((n||(decide (t.n=0)))&&(s||(decide (t.s=⟨#[]⟩))))&&(l||(decide (((t.l.length: Nat): Int)=0))))))]) (fun a C=>?_) ?_)));rotate_left
 ·refine Lm J C fun a C=>?_;refine Lm J C fun a C=>?_;refine au (t:=10) C J (fun F C=>?_) (fun F C=>?_)
  ·refine Lf J C J J fun a C=>?_;refine Lf J C J J fun a C=>?_;refine Lf J C J J fun a C=>?_;refine lin J (an C J J J fun a C=>?_);refine Lm J C fun a C=>?_;refine ad J C J J J (aq C J J fun a C=>?_);refine ad J C J J J (aq C J J fun a C=>?_);refine au (t:=17) C J (fun M C=>?_) (fun M C=>?_)
   ·refine Lf J C J J fun a C=>?_;refine Lf J C J J fun a C=>?_;refine Lf J C J J fun a C=>?_;refine ad J C J J J (an C J J J fun a C=>?_);refine lin J (an C J J J fun a C=>?_);refine Lm J C fun a C=>?_;refine ad J C J J J (aq C J J fun a C=>?_);refine ad J C J J J (aq C J J fun a C=>?_);refine au (t:=25) C J (fun Z C=>?_) (fun Z C=>?_)
    ·refine Lf J C J J fun a C=>?_;refine Lf J C J J fun a C=>?_;refine Lf J C J J fun a C=>?_;refine Lf J C J J fun a C=>?_;refine ad J C J J J (an C J J J fun a C=>?_);refine lin J (an C J J J fun a C=>?_);refine Ls J C fun a C=>?_;exact wpList_nil ⟨rfl,rfl,Has.cons C J (Has.cons C J (Has.cons C J (Has.cons C J (Has.cons C (by simp [lk,Nat.beq,F,M,Z]) (C.nil)))))⟩
    ·refine ad J C J J J (ac (f:=3) (o2:=3) T41 T39 J J J J C J J fun a C=>?_);refine ad J C J J J (ae (v:=(.slice A t.l.length c)) T39 J C J (G.blkL 0 J) J J fun a C=>?_);refine ad J C J J J (aI T39.und C J J fun a C=>?_);refine ad J C J J J (aJ (i:=((t.l.length: Nat): Int)) (j:=0) C J J J fun a C=>?_);refine ad J C J J J (ak C J J J fun a C=>?_);refine lin J (an C J J J fun a C=>?_);refine Ls J C fun a C=>?_;exact wpList_nil ⟨rfl,rfl,Has.cons C J (Has.cons C J (Has.cons C J (Has.cons C J (Has.cons C (by simp [lk,Nat.beq,F,M,Z]) (C.nil)))))⟩
   ·refine ad J C J J J (ac (f:=2) (o2:=2) T41 T9 J J J J C J J fun a C=>?_);refine ad J C J J J (ae (v:=(.string t.s)) T9 J C J (G.blkL 0 J) J J fun a C=>?_);refine ad J C J J J (dG C J J J fun a C=>?_);refine ad J C J J J (ak C J J J fun a C=>?_);refine lin J (an C J J J fun a C=>?_);refine Lm J C fun a C=>?_;refine ai (t:=23) C J (fun V C=>?_) (fun V C=>?_)
    ·refine ad J C J J J (aq C J J fun a C=>?_);refine ad J C J J J (aq C J J fun a C=>?_);refine au (t:=25) C J (fun a0 C=>?_) (fun a0 C=>?_)
     ·refine Lf J C J J fun a C=>?_;refine Lf J C J J fun a C=>?_;refine Lf J C J J fun a C=>?_;refine Lf J C J J fun a C=>?_;refine ad J C J J J (an C J J J fun a C=>?_);refine lin J (an C J J J fun a C=>?_);refine Ls J C fun a C=>?_;exact wpList_nil ⟨rfl,rfl,Has.cons C J (Has.cons C J (Has.cons C J (Has.cons C J (Has.cons C (by simp [lk,Nat.beq,F,M,V,a0]) (C.nil)))))⟩
     ·refine ad J C J J J (ac (f:=3) (o2:=3) T41 T39 J J J J C J J fun a C=>?_);refine ad J C J J J (ae (v:=(.slice A t.l.length c)) T39 J C J (G.blkL 0 J) J J fun a C=>?_);refine ad J C J J J (aI T39.und C J J fun a C=>?_);refine ad J C J J J (aJ (i:=((t.l.length: Nat): Int)) (j:=0) C J J J fun a C=>?_);refine ad J C J J J (ak C J J J fun a C=>?_);refine lin J (an C J J J fun a C=>?_);refine Ls J C fun a C=>?_;exact wpList_nil ⟨rfl,rfl,Has.cons C J (Has.cons C J (Has.cons C J (Has.cons C J (Has.cons C (by simp [lk,Nat.beq,F,M,V,a0]) (C.nil)))))⟩
    ·refine Lf J C J J fun a C=>?_;refine Lf J C J J fun a C=>?_;refine bE J J J C J J J fun a C=>?_;refine bE J J J C J J J fun a C=>?_;refine bE J J J C J J J fun a C=>?_;refine bE J J J C J J J fun a C=>?_;refine Lf J C J J fun a C=>?_;refine lin J (ak C J J J fun a C=>?_);refine Ls J C fun a C=>?_;exact wpList_nil ⟨rfl,rfl,Has.cons C J (Has.cons C J (Has.cons C J (Has.cons C J (Has.cons C (by simp [lk,Nat.beq,F,M,V]) (C.nil)))))⟩
  ·refine ad J C J J J (ac (f:=1) (o2:=1) T41 T3 J J J J C J J fun a C=>?_);refine ad J C J J J (ae (v:=(iV t.n)) T3 J C J (G.blkL 0 J) J J fun a C=>?_);refine ad J C J J J (aJ (i:=t.n) (j:=0) C J J J fun a C=>?_);refine lin J (ak C J J J fun a C=>?_);refine Lm J C fun a C=>?_;refine ai (t:=15) C J (fun I C=>?_) (fun I C=>?_)
   ·refine ad J C J J J (aq C J J fun a C=>?_);refine ad J C J J J (aq C J J fun a C=>?_);refine au (t:=17) C J (fun O C=>?_) (fun O C=>?_)
    ·refine Lf J C J J fun a C=>?_;refine Lf J C J J fun a C=>?_;refine Lf J C J J fun a C=>?_;refine ad J C J J J (an C J J J fun a C=>?_);refine lin J (an C J J J fun a C=>?_);refine Lm J C fun a C=>?_;refine ad J C J J J (aq C J J fun a C=>?_);refine ad J C J J J (aq C J J fun a C=>?_);refine au (t:=25) C J (fun X C=>?_) (fun X C=>?_)
     ·refine Lf J C J J fun a C=>?_;refine Lf J C J J fun a C=>?_;refine Lf J C J J fun a C=>?_;refine Lf J C J J fun a C=>?_;refine ad J C J J J (an C J J J fun a C=>?_);refine lin J (an C J J J fun a C=>?_);refine Ls J C fun a C=>?_;exact wpList_nil ⟨rfl,rfl,Has.cons C J (Has.cons C J (Has.cons C J (Has.cons C J (Has.cons C (by simp [lk,Nat.beq,F,I,O,X]) (C.nil)))))⟩
     ·refine ad J C J J J (ac (f:=3) (o2:=3) T41 T39 J J J J C J J fun a C=>?_);refine ad J C J J J (ae (v:=(.slice A t.l.length c)) T39 J C J (G.blkL 0 J) J J fun a C=>?_);refine ad J C J J J (aI T39.und C J J fun a C=>?_);refine ad J C J J J (aJ (i:=((t.l.length: Nat): Int)) (j:=0) C J J J fun a C=>?_);refine ad J C J J J (ak C J J J fun a C=>?_);refine lin J (an C J J J fun a C=>?_);refine Ls J C fun a C=>?_;exact wpList_nil ⟨rfl,rfl,Has.cons C J (Has.cons C J (Has.cons C J (Has.cons C J (Has.cons C (by simp [lk,Nat.beq,F,I,O,X]) (C.nil)))))⟩
    ·refine ad J C J J J (ac (f:=2) (o2:=2) T41 T9 J J J J C J J fun a C=>?_);refine ad J C J J J (ae (v:=(.string t.s)) T9 J C J (G.blkL 0 J) J J fun a C=>?_);refine ad J C J J J (dG C J J J fun a C=>?_);refine ad J C J J J (ak C J J J fun a C=>?_);refine lin J (an C J J J fun a C=>?_);refine Lm J C fun a C=>?_;refine ai (t:=23) C J (fun T C=>?_) (fun T C=>?_)
     ·refine ad J C J J J (aq C J J fun a C=>?_);refine ad J C J J J (aq C J J fun a C=>?_);refine au (t:=25) C J (fun Y C=>?_) (fun Y C=>?_)
      ·refine Lf J C J J fun a C=>?_;refine Lf J C J J fun a C=>?_;refine Lf J C J J fun a C=>?_;refine Lf J C J J fun a C=>?_;refine ad J C J J J (an C J J J fun a C=>?_);refine lin J (an C J J J fun a C=>?_);refine Ls J C fun a C=>?_;exact wpList_nil ⟨rfl,rfl,Has.cons C J (Has.cons C J (Has.cons C J (Has.cons C J (Has.cons C (by simp [lk,Nat.beq,F,I,O,T,Y]) (C.nil)))))⟩
      ·refine ad J C J J J (ac (f:=3) (o2:=3) T41 T39 J J J J C J J fun a C=>?_);refine ad J C J J J (ae (v:=(.slice A t.l.length c)) T39 J C J (G.blkL 0 J) J J fun a C=>?_);refine ad J C J J J (aI T39.und C J J fun a C=>?_);refine ad J C J J J (aJ (i:=((t.l.length: Nat): Int)) (j:=0) C J J J fun a C=>?_);refine ad J C J J J (ak C J J J fun a C=>?_);refine lin J (an C J J J fun a C=>?_);refine Ls J C fun a C=>?_;exact wpList_nil ⟨rfl,rfl,Has.cons C J (Has.cons C J (Has.cons C J (Has.cons C J (Has.cons C (by simp [lk,Nat.beq,F,I,O,T,Y]) (C.nil)))))⟩
     ·refine Lf J C J J fun a C=>?_;refine Lf J C J J fun a C=>?_;refine bE J J J C J J J fun a C=>?_;refine bE J J J C J J J fun a C=>?_;refine bE J J J C J J J fun a C=>?_;refine bE J J J C J J J fun a C=>?_;refine Lf J C J J fun a C=>?_;refine lin J (ak C J J J fun a C=>?_);refine Ls J C fun a C=>?_;exact wpList_nil ⟨rfl,rfl,Has.cons C J (Has.cons C J (Has.cons C J (Has.cons C J (Has.cons C (by simp [lk,Nat.beq,F,I,O,T]) (C.nil)))))⟩
   ·refine Lf J C J J fun a C=>?_;refine Lf J C J J fun a C=>?_;refine bE J J J C J J J fun a C=>?_;refine bE J J J C J J J fun a C=>?_;refine bE J J J C J J J fun a C=>?_;refine Lf J C J J fun a C=>?_;refine lin J (ak C J J J fun a C=>?_);refine Lm J C fun a C=>?_;refine Lf J C J J fun a C=>?_;refine Lf J C J J fun a C=>?_;refine bE J J J C J J J fun a C=>?_;refine bE J J J C J J J fun a C=>?_;refine bE J J J C J J J fun a C=>?_;refine bE J J J C J J J fun a C=>?_;refine Lf J C J J fun a C=>?_;refine lin J (ak C J J J fun a C=>?_);refine Ls J C fun a C=>?_;exact wpList_nil ⟨rfl,rfl,Has.cons C J (Has.cons C J (Has.cons C J (Has.cons C J (Has.cons C (by simp [lk,Nat.beq,F,I]) (C.nil)))))⟩
 refine aa (wp_ret (ret1 J C J ?_));refine⟨congrArg _ ?_,G.plain.drop_all⟩
 first | rfl |(simp only [bareB];rfl) |(simp [bareB])
theorem c_rune {w0: World} {H: PHeap} (hI: Inv w0 H []) {r: Int}: Calls prog 179 #[(.int .i32 r)] w0 (Rs w0 H (.bool (decide (r < 32)||decide (126 < r)))):=by
 have F:=Step.refl hI;refine enter [(.int .i32 r)] func179 J ntmps179 J fun a C=>?_;refine wp_seq (ab (Ls J C fun a C=>?_));refine wpList_nil (aa (wp_seq (bH (D:= []) (N:=9) (E:= [(0,(.int .i32 r)),(2,(.bool ((decide (r < 32))||(decide (126 < r)))))]) (fun a C=>?_) ?_)));rotate_left
 ·refine Lm J C fun a C=>?_;refine lin J (aQ (i:=r) (j:=32) C J J J fun a C=>?_);refine Lm J C fun a C=>?_;refine ai (t:=5) C J (fun h1 C=>?_) (fun h1 C=>?_)
  ·refine Lf J C J J fun a C=>?_;refine Lf J C J J fun a C=>?_;refine lin J (an C J J J fun a C=>?_);refine Ls J C fun a C=>?_;exact wpList_nil ⟨rfl,rfl,Has.cons C J (Has.cons C (by simp [lk,Nat.beq,h1]) (C.nil))⟩
  ·refine ad J C J J J (aq C J J fun a C=>?_);refine ad J C J J J (cx (i:=r) (j:=126) C J J J fun a C=>?_);refine lin J (ak C J J J fun a C=>?_);refine Ls J C fun a C=>?_;exact wpList_nil ⟨rfl,rfl,Has.cons C J (Has.cons C (by simp [lk,Nat.beq,h1]) (C.nil))⟩
 refine aa (wp_ret (ret1 J C J ?_));refine⟨congrArg _ ?_,F.plain.drop_all⟩
 first | rfl |(simp only [];rfl) |(simp [])
def IdxR (w: World) (H: PHeap) (s: ByteArray) (e: Ending) (w': World): Prop:= ∃ r: Int,e=.returned (iV r)/\(r < 0↔s.data.toList.all nby=true)/\ -1<=r/\Step w H [] w' H []
theorem nby_step {s: ByteArray} {p: Nat} (h: p < s.size) (hall: ∀(j: Nat) (u: UInt8),j < p->s.data[j]? =some u->nby u=true) :
  (nby (s[p]'h)=true/\Utf8.decode s p=((s[p]'h).toNat,1)/\¬(((s[p]'h).toNat: Int) < 32)/\¬((126: Int) <((s[p]'h).toNat: Int))/\∀(j: Nat) (u: UInt8),j < p+1->s.data[j]? =some u->nby u=true)\/
  (s.data.toList.all nby=false/\((((Utf8.decode s p).1: Nat): Int) < 32\/(126: Int) <(((Utf8.decode s p).1: Nat): Int))):=by
 have I: s.data[p]? =some (s[p]'h):=by rw [Array.getElem?_eq_getElem h];rfl
 have O: s[p]'h ∈ s.data.toList:=by
  have:=Array.mem_of_getElem? I;exact Array.mem_toList_iff.2 this
 by_cases C: nby (s[p]'h)=true
 ·left
  have J: 32<=(s[p]'h).toNat/\(s[p]'h).toNat<=126:=by simpa [nby] using C
  refine⟨C,decode_ascii s p h j0,by omega,by omega,fun j u M hu=>?_⟩
  rcases Nat.lt_succ_iff_lt_or_eq.1 M with h1 | h1
  ·exact hall j u h1 hu
  ·subst h1;rw [I] at hu;rw [<- Option.some.inj hu];exact C
 ·right
  refine⟨by
   rw [Bool.eq_false_iff];intro F;exact C (List.all_eq_true.1 F _ O),?_⟩
  have J: ¬(32<=(s[p]'h).toNat/\(s[p]'h).toNat<=126):=fun F=>C (by simpa [nby] using F)
  by_cases G:(s[p]'h).toNat < 128
  ·rw [decode_ascii s p h G];simp only;omega
  ·have:=decode_high s p h G;omega
theorem nby_all {s: ByteArray} {p: Nat} (h: ¬ p < s.size) (hall: ∀(j: Nat) (u: UInt8),j < p->s.data[j]? =some u->nby u=true): s.data.toList.all nby=true:=by
 refine List.all_eq_true.2 fun u hu=>?_;obtain⟨j,F⟩:=List.getElem?_of_mem hu;have C: s.data[j]? =some u:=by simpa using F
 have: j < s.data.size:=(Array.getElem?_eq_some_iff.1 C).1;have e: s.data.size=s.size:=rfl;exact hall j u j0 C
theorem c_indexFunc {w0: World} {H: PHeap} (hI: Inv w0 H []) {s: ByteArray}: Calls prog 182 #[(.string s),(.func (.func 179) #[] #[]),(.bool true)] w0 (IdxR w0 H s):=by
 have F:=Step.refl hI;refine enter [(.string s),(.func (.func 179) #[] #[]),(.bool true)] func182 J ntmps182 J fun a C=>?_;refine wp_seq (ab (Ls J C fun a C=>?_));refine wpList_nil (aa (wp_seq (wp_seq (ab (Lm J C fun a C=>?_)))));refine lin J (o_rangeS T9.und F C J J fun V a w F C=>?_);refine wpList_nil (aa (wp_block ?_));refine aL (fun a7 a w=> ∃(p: Nat),a7=s.size - p/\Has [] a 21 [(1,(.func (.func 179) #[] #[])),(2,(.bool true)),(10,(pB V))]/\Step w0 H [] w H [(some V,.stringIter s p)]/\(p<=s.size)/\(∀(j: Nat) (u: UInt8),j < p->s.data[j]? =some u->nby u=true)) _ ⟨0,rfl,C.pk J,F,by omega,fun j u h=>by omega⟩ ?_;intro ai a w a5;obtain⟨p,ad,C,F,ae,Y⟩:=a5;refine wp_seq ?_
 by_cases I: p < s.size
 ·rcases nby_step I Y with ⟨ac,G,a1,a2,a3⟩ |⟨a4,Z⟩
  ·generalize a9:(s[p]'I).toNat=M at G a1 a2
   obtain⟨a6,a0⟩: ∃ n,n=1:=⟨1,rfl⟩;rw [<- a0] at G;refine ab (lin J (o_nextS (i:=0) F J I G C J J fun a w F C=>?_));refine lin J (ah (v:=(.bool true)) C J J J fun a C=>?_);refine wpList_nil (aa (wp_seq (ao C J (wp_skip (aa (wp_block (wp_seq (ab (lin J (ah (v:=(iV ((p: Nat): Int))) C J J J fun a C=>?_))))))))));refine lin J (ah (v:=(.int .i32 ((M: Nat): Int))) C J J J fun a C=>?_);refine Ls J C fun a C=>?_;refine Ls J C fun a C=>?_;refine wpList_nil (aa (wp_seq (ab (Lm J C fun a C=>?_))));refine Lm J C fun a C=>?_;refine lin J (a8 func179 J J (C.evs J) C J J (c_rune F.inv.nil) ?_);rintro e w ⟨rfl,T⟩;refine⟨_,rfl,fun a C=>?_⟩;have F:=F.call T;refine Lm J C fun a C=>?_;refine lin J (o_eqb T4.und C J J J fun a C=>?_);refine wpList_nil (aa (au (t:=19) C J (fun X C=>?_) (fun X C=>?_)))
   ·refine ao C J (wp_seq (ab (Lm J C fun a C=>?_)));refine Ls J C fun a C=>?_;refine wpList_nil (aa (wp_ret (av (af (av (af (ret1 J C J ?_)))))))
    exfalso
    simp [a1,a2] at X
   ·refine ag C J (wp_skip (ar (aa (?_))));subst a0;exact⟨s.size - (p+1),by omega,(p+1),rfl,C.pk J,F,by omega,a3⟩
  ·obtain⟨M,a6,G⟩: ∃ c n,Utf8.decode s p=(c,n):=⟨_,_,rfl⟩;rw [G] at Z;refine ab (lin J (o_nextS (i:=0) F J I G C J J fun a w F C=>?_));refine lin J (ah (v:=(.bool true)) C J J J fun a C=>?_);refine wpList_nil (aa (wp_seq (ao C J (wp_skip (aa (wp_block (wp_seq (ab (lin J (ah (v:=(iV ((p: Nat): Int))) C J J J fun a C=>?_))))))))));refine lin J (ah (v:=(.int .i32 ((M: Nat): Int))) C J J J fun a C=>?_);refine Ls J C fun a C=>?_;refine Ls J C fun a C=>?_;refine wpList_nil (aa (wp_seq (ab (Lm J C fun a C=>?_))));refine Lm J C fun a C=>?_;refine lin J (a8 func179 J J (C.evs J) C J J (c_rune F.inv.nil) ?_);rintro e w ⟨rfl,T⟩;refine⟨_,rfl,fun a C=>?_⟩;have F:=F.call T;refine Lm J C fun a C=>?_;refine lin J (o_eqb T4.und C J J J fun a C=>?_);refine wpList_nil (aa (au (t:=19) C J (fun O C=>?_) (fun O C=>?_)))
   ·refine ao C J (wp_seq (ab (Lm J C fun a C=>?_)));refine Ls J C fun a C=>?_;refine wpList_nil (aa (wp_ret (av (af (av (af (ret1 J C J ?_)))))));exact⟨(p: Int),rfl,⟨fun h=>by omega,fun h=>by rw [a4] at h;cases h⟩,by omega,F.drop_all⟩
   ·refine ag C J (wp_skip (ar (aa (?_))))
    exfalso
    simp only [beq_iff_eq,Bool.or_eq_true,decide_eq_true_eq,Bool.not_eq_true,beq_eq_false_iff_ne,ne_eq] at O;exact O Z
 ·refine ab (lin J (o_nextE (i:=0) F J I C J J fun a C=>?_));refine lin J (ah (v:=(.bool false)) C J J J fun a C=>?_);refine wpList_nil (aa (wp_seq (ag C J (wp_exit (aw (aw (aH (aa (wp_seq (ab (Ls J C fun a C=>?_)))))))))));refine wpList_nil (aa (wp_ret (ret1 J C J ?_)));exact⟨-1,rfl,⟨fun _=>nby_all I Y,fun _=>by omega⟩,by omega,F.drop_all⟩
theorem c_IndexFunc {w0: World} {H: PHeap} (hI: Inv w0 H []) {s: ByteArray}: Calls prog 180 #[(.string s),(.func (.func 179) #[] #[])] w0 (IdxR w0 H s):=by
 have F:=Step.refl hI;refine enter [(.string s),(.func (.func 179) #[] #[])] func180 J ntmps180 J fun a C=>?_;refine wp_seq (ab (Ls J C fun a C=>?_));refine wpList_nil (aa (wp_seq (ab (Lm J C fun a C=>?_))));refine Lm J C fun a C=>?_;refine lin J (Co func182 C J (c_indexFunc F.inv.nil) ?_);rintro e w ⟨O,rfl,I,M,G⟩;refine⟨_,rfl,fun a C=>?_⟩;have F:=F.call G;refine Ls J C fun a C=>?_;refine wpList_nil (aa (wp_ret (ret1 J C J ?_)));exact⟨O,rfl,I,M,F.drop_all⟩
theorem c_name {w0: World} {H: PHeap} (hI: Inv w0 H []) {s: ByteArray}: Calls prog 173 #[(.string s)] w0 (Rs w0 H (.bool (nameB s))):=by
 have F:=Step.refl hI;refine enter [(.string s)] func173 J ntmps173 J fun a C=>?_;refine wp_seq (ab (Ls J C fun a C=>?_));refine wpList_nil (aa (wp_seq (ab (Ls J C fun a C=>?_))));refine wpList_nil (aa (wp_seq (ab (Lm J C fun a C=>?_))));refine lin J (cy T9.und C J J fun a C=>?_);refine lin J (co (i:=(((s).size: Nat): Int)) (j:=1) C J J J fun a C=>?_);refine Lm J C fun a C=>?_;refine ai (t:=7) C J (fun h1 C=>?_) (fun h1 C=>?_)
 ·refine ad J C J J J (aq C J J fun a C=>?_);refine ad J C J J J (cy T9.und C J J fun a C=>?_);refine ad J C J J J (cY (i:=(((s).size: Nat): Int)) (j:=32) C J J J fun a C=>?_);refine lin J (an C J J J fun a C=>?_);refine Lm J C fun a C=>?_;refine ai (t:=12) C J (fun h2 C=>?_) (fun h2 C=>?_)
  ·refine ad J C J J J (aq C J J fun a C=>?_);refine ad J C J J J (aq C J J fun a C=>?_);refine ad J C J J J (Co func180 C J (c_IndexFunc F.inv.nil) ?_);rintro e w ⟨G,rfl,M,O,I⟩;refine⟨_,rfl,fun a C=>?_⟩;have F:=F.call I;refine ad J C J J J (aQ (i:=G) (j:=0) C J J J fun a C=>?_);refine lin J (an C J J J fun a C=>?_);refine Ls J C fun a C=>?_;refine wpList_nil (aa (wp_ret (ret1 J C J ?_)));refine⟨congrArg _ (congrArg _ ?_),F.plain.drop_all⟩;unfold nameB;rw [show s.data.toList.all nby=decide (G < 0) from by rw [Bool.eq_iff_iff,decide_eq_true_eq];exact M.symm,decide_eq_true (show 1<=s.size by omega),decide_eq_true (show s.size<=32 by omega)];rfl
  ·refine Lf J C J J fun a C=>?_;refine Lf J C J J fun a C=>?_;refine Lf J C J J fun a C=>?_;refine Lf J C J J fun a C=>?_;refine lin J (ak C J J J fun a C=>?_);refine Ls J C fun a C=>?_;refine wpList_nil (aa (wp_ret (ret1 J C J ?_)));refine⟨congrArg _ (congrArg _ ?_),F.plain.drop_all⟩;unfold nameB
   first | rw [decide_eq_false (show ¬ 1<=s.size by omega)];rfl |(rw [decide_eq_false (show ¬ s.size<=32 by omega)];simp)
 ·refine Lf J C J J fun a C=>?_;refine Lf J C J J fun a C=>?_;refine Lf J C J J fun a C=>?_;refine lin J (ak C J J J fun a C=>?_);refine Lm J C fun a C=>?_;refine Lf J C J J fun a C=>?_;refine Lf J C J J fun a C=>?_;refine Lf J C J J fun a C=>?_;refine Lf J C J J fun a C=>?_;refine lin J (ak C J J J fun a C=>?_);refine Ls J C fun a C=>?_;refine wpList_nil (aa (wp_ret (ret1 J C J ?_)));refine⟨congrArg _ (congrArg _ ?_),F.plain.drop_all⟩;unfold nameB
  first | rw [decide_eq_false (show ¬ 1<=s.size by omega)];rfl |(rw [decide_eq_false (show ¬ s.size<=32 by omega)];simp)
theorem c_form1 {w0: World} {H: PHeap} (hI: Inv w0 H []) {t: Tm} {A: Option Addr} {c: Nat} {bb: Nat} (hbb: H bb=some (.cells #[.func (.func 169) #[] #[]] 211 (0,0))) (hr: RowT H A c t.l): Calls prog 170 #[(tv t A c),(pB bb)] w0 (Rs w0 H (.bool (form1 t))):=by
 have F:=Step.refl hI;refine enter [(tv t A c),(pB bb)] func170 J ntmps170 J fun a C=>?_;refine wp_seq (ab (lin J (aG (cs:=(tA t A c)) F C J J J fun O a w F C=>?_)));refine Ls J C fun a C=>?_;refine wpList_nil (aa (wp_seq (ab (lin J (ae (v:=(.func (.func 169) #[] #[])) T211 J C J (F.blkH hbb) J J fun a C=>?_)))));refine lin J (am (vs:=(tL t A c)) T41 J C J (F.blkL 0 J) J (aj J) J fun a C=>?_);refine lin J (a8 func169 J J (C.evs J) C J J (ej F.inv.nil hr) ?_);rintro e w ⟨rfl,M⟩;refine⟨_,rfl,fun a C=>?_⟩;have F:=F.call M;refine Lm J C fun a C=>?_;refine au (t:=7) C J (fun G C=>?_) (fun G C=>?_)
 ·refine ad J C J J J (ac (f:=1) (o2:=1) T41 T3 J J J J C J J fun a C=>?_);refine ad J C J J J (ae (v:=(iV t.n)) T3 J C J (F.blkL 0 J) J J fun a C=>?_);refine ad J C J J J (co (i:=t.n) (j:=0) C J J J fun a C=>?_);refine lin J (an C J J J fun a C=>?_);refine Lm J C fun a C=>?_;refine ai (t:=12) C J (fun I C=>?_) (fun I C=>?_)
  ·refine ad J C J J J (ac (f:=1) (o2:=1) T41 T3 J J J J C J J fun a C=>?_);refine ad J C J J J (ae (v:=(iV t.n)) T3 J C J (F.blkL 0 J) J J fun a C=>?_);refine ad J C J J J (aQ (i:=t.n) (j:=100000) C J J J fun a C=>?_);refine lin J (an C J J J fun a C=>?_);refine Ls J C fun a C=>?_;refine wpList_nil (aa (wp_ret (ret1 J C J ?_)));refine⟨congrArg _ ?_,F.plain.drop_all⟩
   first | rfl |(simp only [form1];rfl) |(simp [form1,G,I])
  ·refine Lf J C J J fun a C=>?_;refine Lf J C J J fun a C=>?_;refine Lf J C J J fun a C=>?_;refine lin J (ak C J J J fun a C=>?_);refine Ls J C fun a C=>?_;refine wpList_nil (aa (wp_ret (ret1 J C J ?_)));refine⟨congrArg _ ?_,F.plain.drop_all⟩
   first | rfl |(simp only [form1];rfl) |(simp [form1,G,I])
 ·refine Lf J C J J fun a C=>?_;refine Lf J C J J fun a C=>?_;refine Lf J C J J fun a C=>?_;refine lin J (ak C J J J fun a C=>?_);refine Lm J C fun a C=>?_;refine Lf J C J J fun a C=>?_;refine Lf J C J J fun a C=>?_;refine Lf J C J J fun a C=>?_;refine lin J (ak C J J J fun a C=>?_);refine Ls J C fun a C=>?_;refine wpList_nil (aa (wp_ret (ret1 J C J ?_)));refine⟨congrArg _ ?_,F.plain.drop_all⟩
  first | rfl |(simp only [form1];rfl) |(simp [form1,G])
theorem c_form2 {w0: World} {H: PHeap} (hI: Inv w0 H []) {t: Tm} {A: Option Addr} {c: Nat} {bb: Nat} (hbb: H bb=some (.cells #[.func (.func 169) #[] #[]] 211 (0,0))) (hr: RowT H A c t.l): Calls prog 171 #[(tv t A c),(pB bb)] w0 (Rs w0 H (.bool (form2 t))):=by
 have F:=Step.refl hI;refine enter [(tv t A c),(pB bb)] func171 J ntmps171 J fun a C=>?_;refine wp_seq (ab (lin J (aG (cs:=(tA t A c)) F C J J J fun O a w F C=>?_)));refine Ls J C fun a C=>?_;refine wpList_nil (aa (wp_seq (ab (lin J (ae (v:=(.func (.func 169) #[] #[])) T211 J C J (F.blkH hbb) J J fun a C=>?_)))));refine lin J (am (vs:=(tL t A c)) T41 J C J (F.blkL 0 J) J (aj J) J fun a C=>?_);refine lin J (a8 func169 J J (C.evs J) C J J (ej F.inv.nil hr) ?_);rintro e w ⟨rfl,M⟩;refine⟨_,rfl,fun a C=>?_⟩;have F:=F.call M;refine Lm J C fun a C=>?_;refine au (t:=7) C J (fun G C=>?_) (fun G C=>?_)
 ·refine ad J C J J J (ac (f:=1) (o2:=1) T41 T3 J J J J C J J fun a C=>?_);refine ad J C J J J (ae (v:=(iV t.n)) T3 J C J (F.blkL 0 J) J J fun a C=>?_);refine ad J C J J J (co (i:=t.n) (j:=(-2147483647)) C J J J fun a C=>?_);refine lin J (an C J J J fun a C=>?_);refine Lm J C fun a C=>?_;refine ai (t:=12) C J (fun I C=>?_) (fun I C=>?_)
  ·refine ad J C J J J (ac (f:=1) (o2:=1) T41 T3 J J J J C J J fun a C=>?_);refine ad J C J J J (ae (v:=(iV t.n)) T3 J C J (F.blkL 0 J) J J fun a C=>?_);refine ad J C J J J (cY (i:=t.n) (j:=2147483647) C J J J fun a C=>?_);refine lin J (an C J J J fun a C=>?_);refine Ls J C fun a C=>?_;refine wpList_nil (aa (wp_ret (ret1 J C J ?_)));refine⟨congrArg _ ?_,F.plain.drop_all⟩
   first | rfl |(simp only [form2];rfl) |(simp [form2,G,I])
  ·refine Lf J C J J fun a C=>?_;refine Lf J C J J fun a C=>?_;refine Lf J C J J fun a C=>?_;refine lin J (ak C J J J fun a C=>?_);refine Ls J C fun a C=>?_;refine wpList_nil (aa (wp_ret (ret1 J C J ?_)));refine⟨congrArg _ ?_,F.plain.drop_all⟩
   first | rfl |(simp only [form2];rfl) |(simp [form2,G,I])
 ·refine Lf J C J J fun a C=>?_;refine Lf J C J J fun a C=>?_;refine Lf J C J J fun a C=>?_;refine lin J (ak C J J J fun a C=>?_);refine Lm J C fun a C=>?_;refine Lf J C J J fun a C=>?_;refine Lf J C J J fun a C=>?_;refine Lf J C J J fun a C=>?_;refine lin J (ak C J J J fun a C=>?_);refine Ls J C fun a C=>?_;refine wpList_nil (aa (wp_ret (ret1 J C J ?_)));refine⟨congrArg _ ?_,F.plain.drop_all⟩
  first | rfl |(simp only [form2];rfl) |(simp [form2,G])
theorem c_form3 {w0: World} {H: PHeap} (hI: Inv w0 H []) {t: Tm} {A: Option Addr} {c: Nat} {bb: Nat} (hbb: H bb=some (.cells #[.func (.func 169) #[] #[]] 211 (0,0))) (hr: RowT H A c t.l): Calls prog 172 #[(tv t A c),(pB bb)] w0 (Rs w0 H (.bool (form3 t))):=by
 have F:=Step.refl hI;refine enter [(tv t A c),(pB bb)] func172 J ntmps172 J fun a C=>?_;refine wp_seq (ab (lin J (aG (cs:=(tA t A c)) F C J J J fun M a w F C=>?_)));refine Ls J C fun a C=>?_;refine wpList_nil (aa (wp_seq (ab (lin J (ae (v:=(.func (.func 169) #[] #[])) T211 J C J (F.blkH hbb) J J fun a C=>?_)))));refine lin J (am (vs:=(tL t A c)) T41 J C J (F.blkL 0 J) J (aj J) J fun a C=>?_);refine lin J (a8 func169 J J (C.evs J) C J J (ej F.inv.nil hr) ?_);rintro e w ⟨rfl,I⟩;refine⟨_,rfl,fun a C=>?_⟩;have F:=F.call I;refine Lm J C fun a C=>?_;refine au (t:=7) C J (fun G C=>?_) (fun G C=>?_)
 ·refine ad J C J J J (ac (f:=2) (o2:=2) T41 T9 J J J J C J J fun a C=>?_);refine ad J C J J J (ae (v:=(.string t.s)) T9 J C J (F.blkL 0 J) J J fun a C=>?_);refine ad J C J J J (Co func173 C J (c_name F.inv.nil) ?_);rintro e w ⟨rfl,I⟩;refine⟨_,rfl,fun a C=>?_⟩;have F:=F.call I;refine lin J (an C J J J fun a C=>?_);refine Ls J C fun a C=>?_;refine wpList_nil (aa (wp_ret (ret1 J C J ?_)));refine⟨congrArg _ ?_,F.plain.drop_all⟩
  first | rfl |(simp only [form3];rfl) |(simp [form3,G])
 ·refine Lf J C J J fun a C=>?_;refine Lf J C J J fun a C=>?_;refine Lf J C J J fun a C=>?_;refine lin J (ak C J J J fun a C=>?_);refine Ls J C fun a C=>?_;refine wpList_nil (aa (wp_ret (ret1 J C J ?_)));refine⟨congrArg _ ?_,F.plain.drop_all⟩
  first | rfl |(simp only [form3];rfl) |(simp [form3,G])
theorem c_form4 {w0: World} {H: PHeap} (hI: Inv w0 H []) {t: Tm} {A: Option Addr} {c: Nat} {bb: Nat} (hbb: H bb=some (.cells #[.func (.func 169) #[] #[]] 211 (0,0))) (hr: RowT H A c t.l): Calls prog 174 #[(tv t A c),(pB bb)] w0 (Rs w0 H (.bool (form4 t))):=by
 have F:=Step.refl hI;refine enter [(tv t A c),(pB bb)] func174 J ntmps174 J fun a C=>?_;refine wp_seq (ab (lin J (aG (cs:=(tA t A c)) F C J J J fun M a w F C=>?_)));refine Ls J C fun a C=>?_;refine wpList_nil (aa (wp_seq (ab (lin J (ae (v:=(.func (.func 169) #[] #[])) T211 J C J (F.blkH hbb) J J fun a C=>?_)))));refine lin J (am (vs:=(tL t A c)) T41 J C J (F.blkL 0 J) J (aj J) J fun a C=>?_);refine lin J (a8 func169 J J (C.evs J) C J J (ej F.inv.nil hr) ?_);rintro e w ⟨rfl,I⟩;refine⟨_,rfl,fun a C=>?_⟩;have F:=F.call I;refine Lm J C fun a C=>?_;refine au (t:=7) C J (fun G C=>?_) (fun G C=>?_)
 ·refine ad J C J J J (ac (f:=2) (o2:=2) T41 T9 J J J J C J J fun a C=>?_);refine ad J C J J J (ae (v:=(.string t.s)) T9 J C J (F.blkL 0 J) J J fun a C=>?_);refine ad J C J J J (cy T9.und C J J fun a C=>?_);refine ad J C J J J (cY (i:=(((t.s).size: Nat): Int)) (j:=255) C J J J fun a C=>?_);refine lin J (an C J J J fun a C=>?_);refine Ls J C fun a C=>?_;refine wpList_nil (aa (wp_ret (ret1 J C J ?_)));refine⟨congrArg _ ?_,F.plain.drop_all⟩
  first | rfl |(simp only [form4];rfl) |(simp [form4,G])
 ·refine Lf J C J J fun a C=>?_;refine Lf J C J J fun a C=>?_;refine Lf J C J J fun a C=>?_;refine Lf J C J J fun a C=>?_;refine lin J (ak C J J J fun a C=>?_);refine Ls J C fun a C=>?_;refine wpList_nil (aa (wp_ret (ret1 J C J ?_)));refine⟨congrArg _ ?_,F.plain.drop_all⟩
  first | rfl |(simp only [form4];rfl) |(simp [form4,G])
end Go.Vk.Tryz
