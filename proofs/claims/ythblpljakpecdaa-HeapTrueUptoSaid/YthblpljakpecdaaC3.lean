/- Part 3 of the proof of heapTrue_holds. Conditions: none. -/
import Derived.Test.YthblpljakpecdaaC2
set_option linter.unusedVariables false
set_option linter.unusedSimpArgs false
set_option linter.unusedSectionVars false
set_option maxRecDepth 100000
open Go.Proofs.Try
namespace Go.Vk.Try
open Go.RowKit
theorem c_note {w0: World} {H: PHeap} {bc bo n d1 d2: Nat} {A1 A2: Option Addr} {en1 en2: Ent} {cs: List Int} {os: List Bool} {x: Wd} (hI: Inv w0 H [(eO bc 22 #[.slice A1 n d1]),en1,(eO bo 28 #[.slice A2 n d2]),en2]) (hR1: Row (.slice A1 n d1) en1 3 1 n (ints cs)) (hR2: Row (.slice A2 n d2) en2 4 1 n (bls os)) (hl1: cs.length=n) (hl2: os.length=n) (hx: refB x=true→0≤x.n∧x.n < n) (hcb: ∀(j: Nat) (v: Int),cs[j]? =some v→(0: Int)≤v∧v≤100000000): Calls prog 79 #[(.agg (wA x)),(pB bc),(pB bo)] w0 (fun e w'=> ∃ en1' en2',e=.returned (.tuple #[])∧Row (.slice A1 n d1) en1' 3 1 n (ints (noteW (cs,os) x).1)∧Row (.slice A2 n d2) en2' 4 1 n (bls (noteW (cs,os) x).2)∧Step w0 H [(eO bc 22 #[.slice A1 n d1]),en1,(eO bo 28 #[.slice A2 n d2]),en2] w' H [(eO bc 22 #[.slice A1 n d1]),en1',(eO bo 28 #[.slice A2 n d2]),en2']):=by
 have hS:=Step.refl hI;refine enter [(.agg (wA x)),(pB bc),(pB bo)] func79 rfl ntmps79 rfl fun a ha=>?_;refine wp_seq (ab (lin rfl (aU (cs:=(wA x)) hS ha rfl rfl rfl fun b1 a w hS ha=>?_)));refine wpList_nil (aa (wp_seq (ab (lin rfl (al (vs:=(wL x)) T34 rfl ha rfl (hS.blkL 0 rfl) rfl (ag rfl) rfl fun a ha=>?_)))));refine lin rfl (aC func80 rfl rfl (ha.evs rfl) ha rfl (eB (x:=x) hS.inv.nil) ?_);rintro e w ⟨rfl,hc⟩;refine⟨_,rfl,fun a ha=>?_⟩;have hS:=hS.call hc;refine wpList_nil (aa (ar (t:=5) ha rfl (fun h3 ha=>?_) (fun h3 ha=>?_)))
 ·obtain⟨hx0_,hx1_⟩:=hx h3;obtain⟨cc_,hxc_⟩: ∃ c_,cs[x.n.toNat]? =some c_:=⟨_,List.getElem?_eq_getElem (by omega)⟩;obtain⟨oo_,hxo_⟩: ∃ c_,os[x.n.toNat]? =some c_:=⟨_,List.getElem?_eq_getElem (by omega)⟩;obtain⟨hc0_,hc1_⟩:=hcb _ _ hxc_;refine ao ha rfl (wp_seq (ab (lin rfl (af (v:=(.slice A1 n d1)) T22 rfl ha rfl (hS.blkL 1 rfl) rfl rfl fun a ha=>?_))));refine lin rfl (ac (f:=1) (o2:=1) T34 T3 rfl rfl rfl rfl ha rfl rfl fun a ha=>?_);refine lin rfl (af (v:=(iV x.n)) T3 rfl ha rfl (hS.blkL 0 rfl) rfl rfl fun a ha=>?_);obtain⟨b4,cap4,cur4,hv4,he4,hc4, -⟩:=hR1.at_ (j:=(Int.toNat x.n)) (by omega);have hA4:(A1: Option Addr)=some ⟨b4,0,none⟩:=by injection hv4
  have hc4:=hc4 0 (iV cc_) (by omega) (ci hxc_);refine lin rfl (aD (b:=b4) (o:=0) (j:=(Int.toNat x.n)) T22.und T3 hA4 ha rfl rfl (by omega) (by omega) rfl fun a ha=>?_);refine lin rfl (af (v:=(iV cc_)) T3 rfl ha rfl (hS.blkL 2 (b:=b4) (o:=.cells cur4 3 (0,0)) (by rw [← he4];rfl)) hc4 rfl fun a ha=>?_);refine lin rfl (aM (i:=cc_) (j:=1) ha rfl rfl rfl (by omega) fun a ha=>?_);obtain⟨b5,cap5,cur5,hv5,he5,hc5, -⟩:=hR1.at_ (j:=(Int.toNat x.n)) (by omega);have hA5:(A1: Option Addr)=some ⟨b5,0,none⟩:=by injection hv5
  have hc5:=hc5 0 (iV cc_) (by omega) (ci hxc_);refine lin rfl (aD (b:=b5) (o:=0) (j:=(Int.toNat x.n)) T22.und T3 hA5 ha rfl rfl (by omega) (by omega) rfl fun a ha=>?_);refine lin rfl (dV (j:=(Int.toNat x.n)) T3 hS (i:=2) rfl hR1 rfl hA5 (by omega) rfl ha rfl rfl rfl rfl fun en6 a w hR6 he6 hS ha=>?_);rw [show (Value.cells _).toList= [.int .i64 (cc_+1)] from rfl,splice_ints (by first | omega |(simp;omega))] at hR6;refine wpList_nil (aa (?_))
  by_cases h8: oo_=true
  ·have hS_:=hS;obtain⟨b9,cap9,cur9,hv9,he9,hc9, -⟩:=hR2.at_ (j:=(Int.toNat x.n)) (by omega);have hA9:(A2: Option Addr)=some ⟨b9,0,none⟩:=by injection hv9
   have hc9:=hc9 0 (.bool oo_) (by omega) (cg hxo_);obtain⟨b10,cap10,cur10,hv10,he10,hc10, -⟩:=hR2.at_ (j:=(Int.toNat x.n)) (by omega);have hA10:(A2: Option Addr)=some ⟨b10,0,none⟩:=by injection hv10
   have hc10:=hc10 0 (.bool oo_) (by omega) (cg hxo_);refine cN bJ _ rfl [fun _ v=>v=(.slice A2 n d2),fun _ v=>v=(.pointer (some ⟨b1,1,none⟩)),fun _ v=>v=(iV x.n),fun _ v=>v=(.slice A2 n d2),fun _ v=>v=(.pointer (some ⟨b1,1,none⟩)),fun _ v=>v=(iV x.n),fun _ v=>v=(.pointer (some ⟨b9,0+(Int.toNat x.n) * 1,none⟩)),fun _ v=>v=(.bool true),fun _ v=>v=(.bool true),fun _ v=>v=undef,fun _ v=>v=undef,fun _ v=>v=(.bool true),fun _ v=>v=(.pointer (some ⟨b10,0+(Int.toNat x.n) * 1,none⟩))] (N:=26) (E:= [(2,(pB bo)),(3,(pB b1))]) mixed rfl rfl rfl (Monos.cons (fun _ _ _ _ h=>h) (Monos.cons (fun _ _ _ _ h=>h) (Monos.cons (fun _ _ _ _ h=>h) (Monos.cons (fun _ _ _ _ h=>h) (Monos.cons (fun _ _ _ _ h=>h) (Monos.cons (fun _ _ _ _ h=>h) (Monos.cons (fun _ _ _ _ h=>h) (Monos.cons (fun _ _ _ _ h=>h) (Monos.cons (fun _ _ _ _ h=>h) (Monos.cons (fun _ _ _ _ h=>h) (Monos.cons (fun _ _ _ _ h=>h) (Monos.cons (fun _ _ _ _ h=>h) (Monos.cons (fun _ _ _ _ h=>h) (Monos.nil)))))))))))))) hS (ha.pk rfl) (.cons ?_ (.cons ?_ (.cons ?_ (.cons ?_ (.cons ?_ (.cons ?_ (.cons ?_ (.cons ?_ (.cons ?_ (.cons ?_ (.cons ?_ (.cons ?_ (.cons ?_ (.nil)))))))))))))) (fun a w H11 hle11 hS ha hdr_=>?_)
   ·refine Qz rfl fun a w hS ha hd=>?_;refine id (af (v:=(.slice A2 n d2)) T28 rfl ha rfl (hS.blkL 3 rfl) rfl rfl fun a ha=>?_);exact qdone rfl ha hS rfl
   ·refine Qz rfl fun a w hS ha hd=>?_;refine id (ac (f:=1) (o2:=1) T34 T3 rfl rfl rfl rfl ha rfl rfl fun a ha=>?_);exact qdone rfl ha hS rfl
   ·refine Qz rfl fun a w hS ha hd=>?_;obtain⟨_,ha,rfl⟩:=hd.g ha 1 rfl;refine id (af (v:=(iV x.n)) T3 rfl ha rfl (hS.blkL 0 rfl) rfl rfl fun a ha=>?_);exact qdone rfl ha hS rfl
   ·refine Qz rfl fun a w hS ha hd=>?_;refine id (af (v:=(.slice A2 n d2)) T28 rfl ha rfl (hS.blkL 3 rfl) rfl rfl fun a ha=>?_);exact qdone rfl ha hS rfl
   ·refine Qz rfl fun a w hS ha hd=>?_;refine id (ac (f:=1) (o2:=1) T34 T3 rfl rfl rfl rfl ha rfl rfl fun a ha=>?_);exact qdone rfl ha hS rfl
   ·refine Qz rfl fun a w hS ha hd=>?_;obtain⟨_,ha,rfl⟩:=hd.g ha 4 rfl;refine id (af (v:=(iV x.n)) T3 rfl ha rfl (hS.blkL 0 rfl) rfl rfl fun a ha=>?_);exact qdone rfl ha hS rfl
   ·refine Qz rfl fun a w hS ha hd=>?_;obtain⟨_,ha,rfl⟩:=hd.g ha 3 rfl;obtain⟨_,ha,rfl⟩:=hd.g ha 5 rfl;refine id (aD (b:=b9) (o:=0) (j:=(Int.toNat x.n)) T28.und T4 hA9 ha rfl rfl (by omega) (by omega) rfl fun a ha=>?_);exact qdone rfl ha hS rfl
   ·refine Qz rfl fun a w hS ha hd=>?_;obtain⟨_,ha,rfl⟩:=hd.g ha 6 rfl;refine id (af (v:=(.bool oo_)) T4 rfl ha rfl (hS.blkL 4 (b:=b9) (o:=.cells cur9 4 (0,0)) (by rw [← he9];rfl)) hc9 rfl fun a ha=>?_);exact qdone rfl ha hS (by first |(rw [decide_eq_true h8] <;> rfl) |(rw [decide_eq_false h8] <;> rfl) |(rw [h8] <;> rfl) | simp [h8])
   ·refine Qz rfl fun a w hS ha hd=>?_;obtain⟨_,ha,rfl⟩:=hd.g ha 7 rfl;refine id (ak ha rfl rfl fun a ha=>?_);exact qdone rfl ha hS (by first |(rw [decide_eq_true h8] <;> rfl) |(rw [decide_eq_false h8] <;> rfl) |(rw [h8] <;> rfl) | simp [h8])
   ·intro a w H_ hle hS ha hd;subst hle;obtain⟨_,ha,rfl⟩:=hd.g ha 8 rfl;rw [if_neg (av rfl rfl ha rfl rfl rfl)];intro d hdd;rfl
   ·intro a w H_ hle hS ha hd;subst hle;obtain⟨_,ha,rfl⟩:=hd.g ha 9 rfl;obtain⟨_,ha,rfl⟩:=hd.g ha 8 rfl;rw [if_neg (av rfl rfl ha rfl rfl rfl)];intro d hdd;rfl
   ·refine Qz rfl fun a w hS ha hd=>?_;obtain⟨_,ha,rfl⟩:=hd.g ha 8 rfl;obtain⟨_,ha,rfl⟩:=hd.g ha 10 rfl;refine id (aq ha rfl rfl rfl fun a ha=>?_);exact qdone rfl ha hS rfl
   ·refine Qz rfl fun a w hS ha hd=>?_;obtain⟨_,ha,rfl⟩:=hd.g ha 0 rfl;obtain⟨_,ha,rfl⟩:=hd.g ha 2 rfl;refine id (aD (b:=b10) (o:=0) (j:=(Int.toNat x.n)) T28.und T4 hA10 ha rfl rfl (by omega) (by omega) rfl fun a ha=>?_);exact qdone rfl ha hS rfl
   subst hle11;obtain⟨_,ha,rfl⟩:=Dd ha hdr_ 0 rfl;obtain⟨_,ha,rfl⟩:=Dd ha hdr_ 1 rfl;obtain⟨_,ha,rfl⟩:=Dd ha hdr_ 2 rfl;obtain⟨_,ha,rfl⟩:=Dd ha hdr_ 3 rfl;obtain⟨_,ha,rfl⟩:=Dd ha hdr_ 4 rfl;obtain⟨_,ha,rfl⟩:=Dd ha hdr_ 5 rfl;obtain⟨_,ha,rfl⟩:=Dd ha hdr_ 6 rfl;obtain⟨_,ha,rfl⟩:=Dd ha hdr_ 7 rfl;obtain⟨_,ha,rfl⟩:=Dd ha hdr_ 8 rfl;obtain⟨_,ha,rfl⟩:=Dd ha hdr_ 9 rfl;obtain⟨_,ha,rfl⟩:=Dd ha hdr_ 10 rfl;obtain⟨_,ha,rfl⟩:=Dd ha hdr_ 11 rfl;obtain⟨_,ha,rfl⟩:=Dd ha hdr_ 12 rfl;refine id (dV (j:=(Int.toNat x.n)) T4 hS (i:=4) rfl hR2 rfl hA10 (by omega) rfl ha rfl rfl rfl rfl fun en12 a w hR12 he12 hS ha=>?_);rw [show (Value.cells _).toList= [.bool true] from rfl,cF (by first | omega |(simp;omega))] at hR12;refine ret0 rfl ha ?_;have hS:=hS.drop;have hq_: noteW (cs,os) x=((cs.set (Int.toNat x.n) (cc_+1)),(os.set (Int.toNat x.n) true)):=by
    unfold noteW;rw [if_pos h3];simp only [List.getD_eq_getElem?_getD,hxc_,hxo_,Option.getD_some]
    try rw [show oo_=true from h8,Bool.true_or]
    try rfl
   rw [hq_];exact⟨_,_,rfl,hR6,hR12,hS⟩
  ·have hS_:=hS;obtain⟨b13,cap13,cur13,hv13,he13,hc13, -⟩:=hR2.at_ (j:=(Int.toNat x.n)) (by omega);have hA13:(A2: Option Addr)=some ⟨b13,0,none⟩:=by injection hv13
   have hc13:=hc13 0 (.bool oo_) (by omega) (cg hxo_);obtain⟨b14,cap14,cur14,hv14,he14,hc14, -⟩:=hR2.at_ (j:=(Int.toNat x.n)) (by omega);have hA14:(A2: Option Addr)=some ⟨b14,0,none⟩:=by injection hv14
   have hc14:=hc14 0 (.bool oo_) (by omega) (cg hxo_);refine cN bJ _ rfl [fun _ v=>v=(.slice A2 n d2),fun _ v=>v=(.pointer (some ⟨b1,1,none⟩)),fun _ v=>v=(iV x.n),fun _ v=>v=(.slice A2 n d2),fun _ v=>v=(.pointer (some ⟨b1,1,none⟩)),fun _ v=>v=(iV x.n),fun _ v=>v=(.pointer (some ⟨b13,0+(Int.toNat x.n) * 1,none⟩)),fun _ v=>v=(.bool false),fun _ v=>v=(.bool false),fun _ v=>v=(.pointer (some ⟨b1,3,none⟩)),fun _ v=>v=(.bool x.one),fun _ v=>v=(.bool x.one),fun _ v=>v=(.pointer (some ⟨b14,0+(Int.toNat x.n) * 1,none⟩))] (N:=26) (E:= [(2,(pB bo)),(3,(pB b1))]) mixed rfl rfl rfl (Monos.cons (fun _ _ _ _ h=>h) (Monos.cons (fun _ _ _ _ h=>h) (Monos.cons (fun _ _ _ _ h=>h) (Monos.cons (fun _ _ _ _ h=>h) (Monos.cons (fun _ _ _ _ h=>h) (Monos.cons (fun _ _ _ _ h=>h) (Monos.cons (fun _ _ _ _ h=>h) (Monos.cons (fun _ _ _ _ h=>h) (Monos.cons (fun _ _ _ _ h=>h) (Monos.cons (fun _ _ _ _ h=>h) (Monos.cons (fun _ _ _ _ h=>h) (Monos.cons (fun _ _ _ _ h=>h) (Monos.cons (fun _ _ _ _ h=>h) (Monos.nil)))))))))))))) hS (ha.pk rfl) (.cons ?_ (.cons ?_ (.cons ?_ (.cons ?_ (.cons ?_ (.cons ?_ (.cons ?_ (.cons ?_ (.cons ?_ (.cons ?_ (.cons ?_ (.cons ?_ (.cons ?_ (.nil)))))))))))))) (fun a w H15 hle15 hS ha hdr_=>?_)
   ·refine Qz rfl fun a w hS ha hd=>?_;refine id (af (v:=(.slice A2 n d2)) T28 rfl ha rfl (hS.blkL 3 rfl) rfl rfl fun a ha=>?_);exact qdone rfl ha hS rfl
   ·refine Qz rfl fun a w hS ha hd=>?_;refine id (ac (f:=1) (o2:=1) T34 T3 rfl rfl rfl rfl ha rfl rfl fun a ha=>?_);exact qdone rfl ha hS rfl
   ·refine Qz rfl fun a w hS ha hd=>?_;obtain⟨_,ha,rfl⟩:=hd.g ha 1 rfl;refine id (af (v:=(iV x.n)) T3 rfl ha rfl (hS.blkL 0 rfl) rfl rfl fun a ha=>?_);exact qdone rfl ha hS rfl
   ·refine Qz rfl fun a w hS ha hd=>?_;refine id (af (v:=(.slice A2 n d2)) T28 rfl ha rfl (hS.blkL 3 rfl) rfl rfl fun a ha=>?_);exact qdone rfl ha hS rfl
   ·refine Qz rfl fun a w hS ha hd=>?_;refine id (ac (f:=1) (o2:=1) T34 T3 rfl rfl rfl rfl ha rfl rfl fun a ha=>?_);exact qdone rfl ha hS rfl
   ·refine Qz rfl fun a w hS ha hd=>?_;obtain⟨_,ha,rfl⟩:=hd.g ha 4 rfl;refine id (af (v:=(iV x.n)) T3 rfl ha rfl (hS.blkL 0 rfl) rfl rfl fun a ha=>?_);exact qdone rfl ha hS rfl
   ·refine Qz rfl fun a w hS ha hd=>?_;obtain⟨_,ha,rfl⟩:=hd.g ha 3 rfl;obtain⟨_,ha,rfl⟩:=hd.g ha 5 rfl;refine id (aD (b:=b13) (o:=0) (j:=(Int.toNat x.n)) T28.und T4 hA13 ha rfl rfl (by omega) (by omega) rfl fun a ha=>?_);exact qdone rfl ha hS rfl
   ·refine Qz rfl fun a w hS ha hd=>?_;obtain⟨_,ha,rfl⟩:=hd.g ha 6 rfl;refine id (af (v:=(.bool oo_)) T4 rfl ha rfl (hS.blkL 4 (b:=b13) (o:=.cells cur13 4 (0,0)) (by rw [← he13];rfl)) hc13 rfl fun a ha=>?_);exact qdone rfl ha hS (by first |(rw [decide_eq_true h8] <;> rfl) |(rw [decide_eq_false h8] <;> rfl) |(rw [h8] <;> rfl) | simp [h8])
   ·refine Qz rfl fun a w hS ha hd=>?_;obtain⟨_,ha,rfl⟩:=hd.g ha 7 rfl;refine id (ak ha rfl rfl fun a ha=>?_);exact qdone rfl ha hS (by first |(rw [decide_eq_true h8] <;> rfl) |(rw [decide_eq_false h8] <;> rfl) |(rw [h8] <;> rfl) | simp [h8])
   ·intro a w H_ hle hS ha hd;subst hle;obtain⟨_,ha,rfl⟩:=hd.g ha 8 rfl;rw [if_pos (aB rfl ha rfl rfl rfl)];refine id (ac (f:=3) (o2:=3) T34 T4 rfl rfl rfl rfl ha rfl rfl fun a ha=>?_);exact qdone rfl ha hS rfl
   ·intro a w H_ hle hS ha hd;subst hle;obtain⟨_,ha,rfl⟩:=hd.g ha 9 rfl;obtain⟨_,ha,rfl⟩:=hd.g ha 8 rfl;rw [if_pos (aB rfl ha rfl rfl rfl)];refine id (af (v:=(.bool x.one)) T4 rfl ha rfl (hS.blkL 0 rfl) rfl rfl fun a ha=>?_);exact qdone rfl ha hS rfl
   ·refine Qz rfl fun a w hS ha hd=>?_;obtain⟨_,ha,rfl⟩:=hd.g ha 8 rfl;obtain⟨_,ha,rfl⟩:=hd.g ha 10 rfl;refine id (am ha rfl rfl rfl fun a ha=>?_);exact qdone rfl ha hS rfl
   ·refine Qz rfl fun a w hS ha hd=>?_;obtain⟨_,ha,rfl⟩:=hd.g ha 0 rfl;obtain⟨_,ha,rfl⟩:=hd.g ha 2 rfl;refine id (aD (b:=b14) (o:=0) (j:=(Int.toNat x.n)) T28.und T4 hA14 ha rfl rfl (by omega) (by omega) rfl fun a ha=>?_);exact qdone rfl ha hS rfl
   subst hle15;obtain⟨_,ha,rfl⟩:=Dd ha hdr_ 0 rfl;obtain⟨_,ha,rfl⟩:=Dd ha hdr_ 1 rfl;obtain⟨_,ha,rfl⟩:=Dd ha hdr_ 2 rfl;obtain⟨_,ha,rfl⟩:=Dd ha hdr_ 3 rfl;obtain⟨_,ha,rfl⟩:=Dd ha hdr_ 4 rfl;obtain⟨_,ha,rfl⟩:=Dd ha hdr_ 5 rfl;obtain⟨_,ha,rfl⟩:=Dd ha hdr_ 6 rfl;obtain⟨_,ha,rfl⟩:=Dd ha hdr_ 7 rfl;obtain⟨_,ha,rfl⟩:=Dd ha hdr_ 8 rfl;obtain⟨_,ha,rfl⟩:=Dd ha hdr_ 9 rfl;obtain⟨_,ha,rfl⟩:=Dd ha hdr_ 10 rfl;obtain⟨_,ha,rfl⟩:=Dd ha hdr_ 11 rfl;obtain⟨_,ha,rfl⟩:=Dd ha hdr_ 12 rfl;refine id (dV (j:=(Int.toNat x.n)) T4 hS (i:=4) rfl hR2 rfl hA14 (by omega) rfl ha rfl rfl rfl rfl fun en16 a w hR16 he16 hS ha=>?_);rw [show (Value.cells _).toList= [.bool x.one] from rfl,cF (by first | omega |(simp;omega))] at hR16;refine ret0 rfl ha ?_;have hS:=hS.drop;have hq_: noteW (cs,os) x=((cs.set (Int.toNat x.n) (cc_+1)),(os.set (Int.toNat x.n) x.one)):=by
    unfold noteW;rw [if_pos h3];simp only [List.getD_eq_getElem?_getD,hxc_,hxo_,Option.getD_some]
    try rw [show oo_=false by simpa using h8,Bool.false_or]
    try rfl
   rw [hq_];exact⟨_,_,rfl,hR6,hR16,hS⟩
 ·refine ai ha rfl (wp_skip (ret0 rfl ha ?_));have hS:=hS.drop;have hq_: noteW (cs,os) x=(cs,os):=by unfold noteW;rw [if_neg (by rw [h3];simp)]
  rw [hq_];exact⟨_,_,rfl,hR1,hR2,hS.plain⟩
end Go.Vk.Try
namespace Go.Vk
open Go.RowKit
theorem Inv.head {w: World} {H: PHeap} (A: List Ent) {B: List Ent} (h: Inv w H (A++B)): Inv w H A:=Inv.tail (Es:=B) (h.perm List.perm_append_comm)
def CB (cs: List Int) (m: Nat): Prop:= ∀(j: Nat) (v: Int),cs[j]? =some v→0≤v∧v≤(m: Int)
theorem CB.zero (n: Nat): CB (List.replicate n 0) 0:=by
 intro j v h;rw [List.getElem?_replicate] at h
 split at h
 ·obtain rfl:=Option.some.inj h;exact⟨Int.le_refl _,Int.le_refl _⟩
 ·cases h
theorem CB.le {cs: List Int} {m n: Nat} (h: CB cs m) (hm: m≤n): CB cs n:=fun j v hj=>⟨(h j v hj).1,by have:=(h j v hj).2;omega⟩
theorem CB.note {c: List Int × List Bool} {m: Nat} (h: CB c.1 m) (x: Wd): CB (noteW c x).1 (m+1):=by
 unfold noteW
 split
 ·intro j v hj;rw [List.getElem?_set] at hj
  split at hj
  ·split at hj
   ·rename_i h1 h2
    obtain rfl:=Option.some.inj hj;rw [List.getD_eq_getElem?_getD,List.getElem?_eq_getElem h2];have:=h _ _ (List.getElem?_eq_getElem h2);simp only [Option.getD_some];omega
   ·cases hj
  ·have:=h j v hj;omega
 ·exact h.le (by omega)
theorem dv (c: List Int × List Bool) (x: Wd):(noteW c x).1.length=c.1.length:=by
 unfold noteW
 split
 ·exact List.length_set
 ·rfl
theorem dC (c: List Int × List Bool) (x: Wd):(noteW c x).2.length=c.2.length:=by
 unfold noteW
 split
 ·exact List.length_set
 ·rfl
section
variable {S: PS} {xs ws: List Wd} {k: Nat} {x: Wd} {c c': List Int × List Bool} {j: Nat} {js: List Nat}
theorem allS_at (h: allS S xs=true) (hx: xs[k]? =some x): wordS S x=true:=List.all_eq_true.1 h x (List.mem_of_getElem? hx)
theorem cX (h: wordS S x=true) (hr: refB x=true): 0≤x.n∧x.n < S.length:=by
 unfold wordS at h;unfold refB at hr;simp only [Bool.or_eq_true,decide_eq_true_eq] at hr;rw [if_neg (by omega),if_neg (by omega),if_neg (by omega),Bool.and_eq_true] at h;obtain⟨b,hb⟩:=Option.isSome_iff_exists.1 h.2;have:=az hb;exact⟨this.1,this.2.1⟩
theorem fold_note (hx: xs[k]? =some x):(xs.take (k+1)).foldl noteW c=noteW ((xs.take k).foldl noteW c) x:=by
 rw [List.take_add_one,hx,List.foldl_append];rfl
theorem BL_get {y: Int} (h:(BL S xs)[k]? =some y): ∃(j: Nat) (b: PB),y=((j: Nat): Int)∧(blocksS S xs)[k]? =some j∧S[j]? =some (some b)∧j < S.length:=by
 unfold BL at h;rw [List.getElem?_map] at h
 cases hb:(blocksS S xs)[k]? with
 | none=>rw [hb] at h;cases h
 | some j =>
  rw [hb] at h;obtain⟨b,h2⟩:=cR (List.mem_of_getElem? hb);exact⟨j,b,(Option.some.inj h).symm,rfl,h2,(List.getElem?_eq_some_iff.1 h2).1⟩
theorem noteL_step (hx: ws[k]? =some x) (hw: wordS S x=true): noteL S c (ws.drop k)=noteL S (noteW c x) (ws.drop (k+1)):=by
 rw [a8 hx,noteL,if_neg (by rw [hw];simp)]
theorem noteL_bad (hx: ws[k]? =some x) (hw: wordS S x=false): noteL S c (ws.drop k)=none:=by
 rw [a8 hx,noteL,if_pos hw]
theorem dA {b: PB} (h: S[j]? =some (some b)): wordsAt S j=b.words:=by
 unfold wordsAt;rw [List.getD_eq_getElem?_getD,h];rfl
theorem noteB_step (hj: js[k]? =some j) (hl: noteL S c (wordsAt S j)=some c'): noteB S c (js.drop k)=noteB S c' (js.drop (k+1)):=by
 rw [a8 hj,noteB,hl]
theorem noteB_bad (hj: js[k]? =some j) (hl: noteL S c (wordsAt S j)=none): noteB S c (js.drop k)=none:=by
 rw [a8 hj,noteB,hl]
def c0S (S: PS) (xs: List Wd): List Int × List Bool:=xs.foldl noteW (List.replicate S.length 0,List.replicate S.length false)
theorem audit_none (ha: allS S xs=true) (h: noteB S (c0S S xs) (blocksS S xs)=none): auditS S xs=213:=by
 unfold auditS;rw [if_neg (by rw [ha];simp),show xs.foldl noteW _=c0S S xs from rfl,h]
theorem dl (ha: allS S xs=true) (h: noteB S (c0S S xs) (blocksS S xs)=some c) (hk:(blocksS S xs)[k]? =some j) (hb: badAt S c j=true): auditS S xs=213:=by
 unfold auditS;rw [if_neg (by rw [ha];simp),show xs.foldl noteW _=c0S S xs from rfl,h];dsimp only;rw [if_pos (List.any_eq_true.2 ⟨j,List.mem_of_getElem? hk,hb⟩)]
theorem audit_ok (ha: allS S xs=true) (h: noteB S (c0S S xs) (blocksS S xs)=some c) (hk: ∀(k j: Nat),(blocksS S xs)[k]? =some j→badAt S c j=false): auditS S xs=0:=by
 unfold auditS;rw [if_neg (by rw [ha];simp),show xs.foldl noteW _=c0S S xs from rfl,h];dsimp only;rw [if_neg];intro h2;obtain⟨j,h3,h4⟩:=List.any_eq_true.1 h2;obtain⟨k,h5⟩:=List.getElem?_of_mem h3;rw [hk k j h5] at h4
 cases h4
end
end Go.Vk
namespace Go.Vk.Try
open Go.RowKit
set_option maxHeartbeats 4000000 in
theorem dO {w0: World} {H: PHeap} {L: List Ent} {p: Nat} {h: HS} (hI: Inv w0 H L) (hK: HK p h L) (hO: h.Ok) {A: Option Addr} {c: Nat} {xs: List Wd} (hr: RowG 4 Wd.cells H A c xs): Calls prog 33 #[(pB p),(.slice A xs.length c)] w0 (fun e w'=> ∃ H',e=.returned (iV (auditS h.S xs))∧Step w0 H L w' H' L):=by
 obtain⟨bs,hbs,hP⟩:=hK;have hS:=Step.refl hI;have hl:=HK.len hO hbs;have hu:=hO.u;have hu: -100000000000≤h.u∧h.u≤100000000000:=by omega
 have hlr:=hr.2.1;have hlc:=hr.1;refine enter [(pB p),(.slice A xs.length c)] func33 rfl ntmps33 rfl fun a ha=>?_;refine wp_seq (ab (Ls rfl ha fun a ha=>?_));refine wpList_nil (aa (wp_seq (wp_seq (ab (Lm rfl ha fun a ha=>?_)))));refine lin rfl (aW T24.und T88 ha rfl rfl rfl fun a ha=>?_);refine Lm rfl ha fun a ha=>?_;refine ae rfl ha rfl rfl rfl (ak ha rfl rfl fun a ha=>?_);refine ae rfl ha rfl rfl rfl (ak ha rfl rfl fun a ha=>?_);have hk1:=fe (hS.tail []) hP ((RdG.of_data hS.inv hr).fewer (bz []));refine ae rfl ha rfl rfl rfl (aC func51 rfl rfl (ha.evs rfl) ha rfl (hk1) ?_);rintro e w ⟨rfl,hc⟩;refine⟨_,rfl,fun a ha=>?_⟩;have hS:=hS.frameR [] hc;refine ae rfl ha rfl rfl rfl (aT ha rfl rfl fun a ha=>?_);refine lin rfl (am ha rfl rfl rfl fun a ha=>?_);refine wpList_nil (aa (ar (t:=27) ha rfl (fun h2 ha=>?_) (fun h2 ha=>?_)))
 ·refine ao ha rfl (wp_seq (ab (Ls rfl ha fun a ha=>?_)));refine wpList_nil (aa (wp_ret (ah (ret1 rfl ha rfl ?_))));have hq_: auditS (er bs) xs=211:=by
   unfold auditS;rw [if_pos (by simpa using h2)]
  rw [hbs] at hq_;rw [hq_];exact⟨_,rfl,hS⟩
 ·have hall_: allS (er bs) xs=true:=by simpa using h2
  refine ai ha rfl (wp_skip (aa (wp_seq ?_)));obtain⟨Abm3,cbm3,Atm3,ctm3,ebm3,etm3,fsm3,hEm3,hLbm3,hLtm3,hRbm3,hRtm3,hNm3,hFm3⟩:=(hP).open_;have hS:=Step.castR [] hEm3 hS;have hS_:=hS;refine As.c_draw_head (ini:=(As.il [])) (sup:=(As.sl [(12,14)])) (als:= [5,11,12,14,13]) (s0:=⟨H,fun _=>none⟩) (L:=((eO p 88 #[(.slice Abm3 bs.length cbm3),(.slice Atm3 bs.length ctm3),(iV h.u)])::ebm3::etm3::(fl3 fsm3))) (N:=122) (E:= [(0,(pB p)),(1,(.slice A xs.length c))]) 15 [fun _ v=>v=(pB p),fun _ v=>v=(pB p),fun _ v=>v=(pB p),fun _ v=>v=(.slice Abm3 bs.length cbm3),fun _ v=>v=(iV ((bs.length: Nat): Int)),fun s v=> ∃ b,s.ax 5=some [(eO b 3 (ints (List.replicate bs.length 0)).toArray)]∧v=(.slice (some ⟨b,0,none⟩) bs.length bs.length)∧Row (.slice (some ⟨b,0,none⟩) bs.length bs.length) (eO b 3 (ints (List.replicate bs.length 0)).toArray) 3 1 bs.length (ints (List.replicate bs.length 0)),fun _ v=>v=(pB p),fun _ v=>v=(pB p),fun _ v=>v=(pB p),fun _ v=>v=(.slice Abm3 bs.length cbm3),fun _ v=>v=(iV ((bs.length: Nat): Int)),fun s v=> ∃ b,s.ax 11=some [(eO b 4 (bls (List.replicate bs.length false)).toArray)]∧v=(.slice (some ⟨b,0,none⟩) bs.length bs.length)∧Row (.slice (some ⟨b,0,none⟩) bs.length bs.length) (eO b 4 (bls (List.replicate bs.length false)).toArray) 4 1 bs.length (bls (List.replicate bs.length false)),fun s v=> ∃ b,s.ax 12=some [(eO b 22 #[(.slice none 0 0)])]∧v=.pointer (some ⟨b,0,none⟩),fun s v=> ∃ b,s.ax 13=some [(eO b 28 #[(.slice none 0 0)])]∧v=.pointer (some ⟨b,0,none⟩),fun s _=> ∃(b b': Nat),s.ax 12=some [(eO b 22 #[(.slice none 0 0)])]∧s.ax 14=some [(eO b 22 #[(.slice (some ⟨b',0,none⟩) bs.length bs.length)])]∧s.ax 5=some [(eO b' 3 (ints (List.replicate bs.length 0)).toArray)]] mixed rfl rfl rfl (As.Monos.cons (fun _ _ _ _ h=>h) (As.Monos.cons (fun _ _ _ _ h=>h) (As.Monos.cons (fun _ _ _ _ h=>h) (As.Monos.cons (fun _ _ _ _ h=>h) (As.Monos.cons (fun _ _ _ _ h=>h) (As.Monos.cons (fun _ _ _ hl ⟨b,h,e⟩=>⟨b,hl.get h,e⟩) (As.Monos.cons (fun _ _ _ _ h=>h) (As.Monos.cons (fun _ _ _ _ h=>h) (As.Monos.cons (fun _ _ _ _ h=>h) (As.Monos.cons (fun _ _ _ _ h=>h) (As.Monos.cons (fun _ _ _ _ h=>h) (As.Monos.cons (fun _ _ _ hl ⟨b,h,e⟩=>⟨b,hl.get h,e⟩) (As.Monos.cons (fun _ _ _ hl ⟨b,h,e⟩=>⟨b,hl.get h,e⟩) (As.Monos.cons (fun _ _ _ hl ⟨b,h,e⟩=>⟨b,hl.get h,e⟩) (As.Monos.cons (fun _ _ _ hl ⟨b,b',h1,h2,h3⟩=>⟨b,b',hl.get h1,hl.get h2,hl.get h3⟩) (As.Monos.nil)))))))))))))))) (fun _=>rfl) hS (ha.pk rfl) (As.QuietsI.cons ?_ (As.QuietsI.cons ?_ (As.QuietsI.cons ?_ (As.QuietsI.cons ?_ (As.QuietsI.cons ?_ (As.QuietsI.cons ?_ (As.QuietsI.cons ?_ (As.QuietsI.cons ?_ (As.QuietsI.cons ?_ (As.QuietsI.cons ?_ (As.QuietsI.cons ?_ (As.QuietsI.cons ?_ (As.QuietsI.cons ?_ (As.QuietsI.cons ?_ (As.QuietsI.cons ?_ (As.QuietsI.nil)))))))))))))))) (fun f_ a w s_ hls hS ha hdr_=>?_)
  ·refine As.Qx rfl fun a w H_ ax_ hle hax_ hS ha hd hls=>?_;have hSf:=hS;refine id (ak ha rfl rfl fun a ha=>?_);exact As.qdone (s:=⟨H_,ax_⟩) (Le.refl _) ha hSf rfl
  ·refine As.Qx rfl fun a w H_ ax_ hle hax_ hS ha hd hls=>?_;obtain⟨_,ha,rfl⟩:=hd.g ha 0 rfl;have hSf:=hS;refine id (aw ha rfl rfl fun a ha=>?_);exact As.qdone (s:=⟨H_,ax_⟩) (Le.refl _) ha hSf rfl
  ·refine As.Qx rfl fun a w H_ ax_ hle hax_ hS ha hd hls=>?_;obtain⟨_,ha,rfl⟩:=hd.g ha 1 rfl;have hSf:=hS;refine id (ac (f:=0) (o2:=0) T88 T86 rfl rfl rfl rfl ha rfl rfl fun a ha=>?_);exact As.qdone (s:=⟨H_,ax_⟩) (Le.refl _) ha hSf rfl
  ·refine As.Qx rfl fun a w H_ ax_ hle hax_ hS ha hd hls=>?_;obtain⟨_,ha,rfl⟩:=hd.g ha 2 rfl;have hSf:=hS;have hS:=Step.dropN _ _ hS;refine id (af (v:=(.slice Abm3 bs.length cbm3)) T86 rfl ha rfl (hS.blkL 0 rfl) rfl rfl fun a ha=>?_);exact As.qdone (s:=⟨H_,ax_⟩) (Le.refl _) ha hSf rfl
  ·refine As.Qx rfl fun a w H_ ax_ hle hax_ hS ha hd hls=>?_;obtain⟨_,ha,rfl⟩:=hd.g ha 3 rfl;have hSf:=hS;have hSr:=Step.dropN _ _ hS;refine id (aK T86.und ha rfl rfl fun a ha=>?_);exact As.qdone (s:=⟨H_,ax_⟩) (Le.refl _) ha hS rfl
  ·refine As.Qx rfl fun a w H_ ax_ hle hax_ hS ha hd hls=>?_;obtain⟨_,ha,rfl⟩:=hd.g ha 4 rfl;have hS: Step w0 H L w H_ ((As.aents (As.il []) (As.sl [(12,14)]) [] ax_++As.aents (As.il []) (As.sl [(12,14)]) [11,12,14,13] ax_++((eO p 88 #[(.slice Abm3 bs.length cbm3),(.slice Atm3 bs.length ctm3),(iV h.u)])::ebm3::etm3::(fl3 fsm3)))):=As.opn (s:=⟨H_,ax_⟩) [] [5] [11,12,14,13] [] rfl (As.con0 hax_ rfl) hS;refine id (eP (k:=bs.length) T22.und T3 rfl rfl hS ha rfl rfl (by omega) (by omega) (by omega) rfl rfl fun b4 a w hR4 hS ha=>?_);rw [zcells_int] at hR4 hS;exact As.qown (i:=5) (dst:=some 33) (s:=⟨H_,ax_⟩) (E:= [(eO b4 3 (ints (List.replicate bs.length 0)).toArray)]) [] [5] [11,12,14,13] rfl rfl hax_ (Le.refl _) ha.dfr (As.has_at ha) hS As.con1 ⟨_,rfl,rfl,hR4⟩
  ·refine As.Qx rfl fun a w H_ ax_ hle hax_ hS ha hd hls=>?_;have hSf:=hS;refine id (ak ha rfl rfl fun a ha=>?_);exact As.qdone (s:=⟨H_,ax_⟩) (Le.refl _) ha hSf rfl
  ·refine As.Qx rfl fun a w H_ ax_ hle hax_ hS ha hd hls=>?_;obtain⟨_,ha,rfl⟩:=hd.g ha 6 rfl;have hSf:=hS;refine id (aw ha rfl rfl fun a ha=>?_);exact As.qdone (s:=⟨H_,ax_⟩) (Le.refl _) ha hSf rfl
  ·refine As.Qx rfl fun a w H_ ax_ hle hax_ hS ha hd hls=>?_;obtain⟨_,ha,rfl⟩:=hd.g ha 7 rfl;have hSf:=hS;refine id (ac (f:=0) (o2:=0) T88 T86 rfl rfl rfl rfl ha rfl rfl fun a ha=>?_);exact As.qdone (s:=⟨H_,ax_⟩) (Le.refl _) ha hSf rfl
  ·refine As.Qx rfl fun a w H_ ax_ hle hax_ hS ha hd hls=>?_;obtain⟨_,ha,rfl⟩:=hd.g ha 8 rfl;have hSf:=hS;have hS:=Step.dropN _ _ hS;refine id (af (v:=(.slice Abm3 bs.length cbm3)) T86 rfl ha rfl (hS.blkL 0 rfl) rfl rfl fun a ha=>?_);exact As.qdone (s:=⟨H_,ax_⟩) (Le.refl _) ha hSf rfl
  ·refine As.Qx rfl fun a w H_ ax_ hle hax_ hS ha hd hls=>?_;obtain⟨_,ha,rfl⟩:=hd.g ha 9 rfl;have hSf:=hS;have hSr:=Step.dropN _ _ hS;refine id (aK T86.und ha rfl rfl fun a ha=>?_);exact As.qdone (s:=⟨H_,ax_⟩) (Le.refl _) ha hS rfl
  ·refine As.Qx rfl fun a w H_ ax_ hle hax_ hS ha hd hls=>?_;obtain⟨_,ha,rfl⟩:=hd.g ha 10 rfl;have hS: Step w0 H L w H_ ((As.aents (As.il []) (As.sl [(12,14)]) [5] ax_++As.aents (As.il []) (As.sl [(12,14)]) [12,14,13] ax_++((eO p 88 #[(.slice Abm3 bs.length cbm3),(.slice Atm3 bs.length ctm3),(iV h.u)])::ebm3::etm3::(fl3 fsm3)))):=As.opn (s:=⟨H_,ax_⟩) [5] [11] [12,14,13] [] rfl (As.con0 hax_ rfl) hS;refine id (eP (k:=bs.length) T28.und T4 rfl rfl hS ha rfl rfl (by omega) (by omega) (by omega) rfl rfl fun b6 a w hR6 hS ha=>?_);rw [cV] at hR6 hS;exact As.qown (i:=11) (dst:=some 39) (s:=⟨H_,ax_⟩) (E:= [(eO b6 4 (bls (List.replicate bs.length false)).toArray)]) [5] [11] [12,14,13] rfl rfl hax_ (Le.refl _) ha.dfr (As.has_at ha) hS As.con1 ⟨_,rfl,rfl,hR6⟩
  ·refine As.Qx rfl fun a w H_ ax_ hle hax_ hS ha hd hls=>?_;have hS: Step w0 H L w H_ ((As.aents (As.il []) (As.sl [(12,14)]) [5,11] ax_++As.aents (As.il []) (As.sl [(12,14)]) [14,13] ax_++((eO p 88 #[(.slice Abm3 bs.length cbm3),(.slice Atm3 bs.length ctm3),(iV h.u)])::ebm3::etm3::(fl3 fsm3)))):=As.opn (s:=⟨H_,ax_⟩) [5,11] [12] [14,13] [] rfl (As.con0 hax_ rfl) hS;refine aE (cs:= #[(.slice none 0 0)]) T22 hS ha rfl rfl fun ab8 a w hS ha=>?_;exact As.qown (i:=12) (dst:=some 5) (s:=⟨H_,ax_⟩) (E:= [(eO ab8 22 #[(.slice none 0 0)])]) [5,11] [12] [14,13] rfl rfl hax_ (Le.refl _) ha.dfr (As.has_at ha) hS As.con1 ⟨ab8,rfl,rfl⟩
  ·refine As.Qx rfl fun a w H_ ax_ hle hax_ hS ha hd hls=>?_;have hS: Step w0 H L w H_ ((As.aents (As.il []) (As.sl [(12,14)]) [5,11,12,14] ax_++As.aents (As.il []) (As.sl [(12,14)]) [] ax_++((eO p 88 #[(.slice Abm3 bs.length cbm3),(.slice Atm3 bs.length ctm3),(iV h.u)])::ebm3::etm3::(fl3 fsm3)))):=As.opn (s:=⟨H_,ax_⟩) [5,11,12,14] [13] [] [] rfl (As.con0 hax_ rfl) hS;refine aE (cs:= #[(.slice none 0 0)]) T28 hS ha rfl rfl fun ab10 a w hS ha=>?_;exact As.qown (i:=13) (dst:=some 6) (s:=⟨H_,ax_⟩) (E:= [(eO ab10 28 #[(.slice none 0 0)])]) [5,11,12,14] [13] [] rfl rfl hax_ (Le.refl _) ha.dfr (As.has_at ha) hS As.con1 ⟨ab10,rfl,rfl⟩
  ·refine As.Qx rfl fun a w H_ ax_ hle hax_ hS ha hd hls=>?_;obtain⟨_,ha,ab8,hx_ab8,rfl⟩:=hd.g ha 12 rfl;have hx_ab8: ax_ 12=some [(eO ab8 22 #[(.slice none 0 0)])]:=hx_ab8;obtain⟨_,ha,b4,hx_4,rfl,hR4⟩:=hd.g ha 5 rfl;have hx_4: ax_ 5=some [(eO b4 3 (ints (List.replicate bs.length 0)).toArray)]:=hx_4;have hS: Step w0 H L w H_ ((eO ab8 22 #[(.slice none 0 0)])::(As.aents (As.il []) (As.sl [(12,14)]) [5,11] ax_++As.aents (As.il []) (As.sl [(12,14)]) [13] ax_++((eO p 88 #[(.slice Abm3 bs.length cbm3),(.slice Atm3 bs.length ctm3),(iV h.u)])::ebm3::etm3::(fl3 fsm3)))):=As.opn (s:=⟨H_,ax_⟩) [5,11] [12,14] [13] [(eO ab8 22 #[(.slice none 0 0)])] rfl (As.con2 rfl rfl rfl hx_ab8 hax_) hS;refine id (aj (cs':= #[(.slice (some ⟨b4,0,none⟩) bs.length bs.length)]) T22 hS (i:=0) rfl ha rfl rfl rfl rfl rfl rfl fun a w hS ha=>?_);exact As.qown (i:=14) (dst:=none) (s:=⟨H_,ax_⟩) (E:= [(eO ab8 22 #[(.slice (some ⟨b4,0,none⟩) bs.length bs.length)])]) [5,11] [12,14] [13] rfl rfl hax_ (Le.refl _) ha.dfr (v:=undef) (fun _ h=>by cases h) hS (.inl (As.con2' rfl rfl)) ⟨ab8,b4,hx_ab8,rfl,hx_4⟩
  obtain⟨H14,ax_⟩:=s_;have hle14: Le H H14:=hls.le;dsimp only at hdr_ hS;have hr:=hr.mono hle14;obtain⟨_,hv_,b4,hx_4,rfl,hR4⟩:=hdr_ 5 _ _ rfl rfl;have ha:=ha.add (hv_ _ rfl);have hx_4: ax_ 5=some [(eO b4 3 (ints (List.replicate bs.length 0)).toArray)]:=hx_4;obtain⟨_,hv_,b6,hx_6,rfl,hR6⟩:=hdr_ 11 _ _ rfl rfl;have ha:=ha.add (hv_ _ rfl);have hx_6: ax_ 11=some [(eO b6 4 (bls (List.replicate bs.length false)).toArray)]:=hx_6;obtain⟨_,hv_,ab8,hx_ab8,rfl⟩:=hdr_ 12 _ _ rfl rfl;have ha:=ha.add (hv_ _ rfl);have hx_ab8: ax_ 12=some [(eO ab8 22 #[(.slice none 0 0)])]:=hx_ab8;obtain⟨_,hv_,ab10,hx_ab10,rfl⟩:=hdr_ 13 _ _ rfl rfl;have ha:=ha.add (hv_ _ rfl);have hx_ab10: ax_ 13=some [(eO ab10 28 #[(.slice none 0 0)])]:=hx_ab10;obtain⟨_,hv_,sb12,ysb12,hq_sb12,hx_sb12,hm_sb12⟩:=hdr_ 14 _ _ rfl rfl;obtain rfl: b4=ysb12:=by have h_:=(hx_4).symm.trans hm_sb12;simpa using h_
  have hx_sb12: ax_ 14=some [(eO sb12 22 #[(.slice (some ⟨b4,0,none⟩) bs.length bs.length)])]:=hx_sb12;obtain rfl: ab8=sb12:=by have h_:=(hx_ab8).symm.trans hq_sb12;simpa using h_
  have hS: Step w0 H L w H14 ((eO b4 3 (ints (List.replicate bs.length 0)).toArray)::(eO b6 4 (bls (List.replicate bs.length false)).toArray)::(eO ab8 22 #[(.slice (some ⟨b4,0,none⟩) bs.length bs.length)])::(eO ab10 28 #[(.slice none 0 0)])::(eO p 88 #[(.slice Abm3 bs.length cbm3),(.slice Atm3 bs.length ctm3),(iV h.u)])::ebm3::etm3::(fl3 fsm3)):=by
   have h_:=hS;unfold As.aents at h_;simp only [List.flatMap_cons,List.flatMap_nil,As.conE,show (As.sl [(12,14)]) 5=none from rfl,show (As.sl [(12,14)]) 11=none from rfl,show (As.sl [(12,14)]) 12=some 14 from rfl,show (As.sl [(12,14)]) 14=none from rfl,show (As.sl [(12,14)]) 13=none from rfl,hx_4,hx_6,hx_ab8,hx_ab10,hx_sb12,Option.isSome_some,Option.getD_some,cond_true,cond_false,List.cons_append,List.nil_append,List.append_nil] at h_;exact h_
  refine any1 (i:=15) (by kernel_rfl) rfl rfl (aj (cs':= #[(.slice (some ⟨b6,0,none⟩) bs.length bs.length)]) T28 hS (i:=3) rfl ha rfl rfl rfl rfl rfl rfl fun a w hS ha=>?_);refine any0 (by kernel_rfl) ?_;refine aa (wp_seq (ab (lin rfl (cv (fs:= #[]) (cs:= #[(pB ab8),(pB ab10)]) ha (ha.evs (xs:= []) rfl) (ha.evs rfl) rfl fun a ha=>?_))));refine Ls rfl ha fun a ha=>?_;refine wpList_nil (aa (wp_seq (wp_seq (ab (Lm rfl ha fun a ha=>?_)))));refine lin rfl (aK T29.und ha rfl rfl fun a ha=>?_);refine Lm rfl ha fun a ha=>?_;refine wpList_nil (aa (wp_block (bn (fun nn_ a w=> ∃(k: Nat),∃(xs_0: List Int),∃(en_0: Ent),∃(xs_1: List Bool),∃(en_1: Ent),nn_=xs.length - k∧Has [] a 122 [(0,(pB p)),(1,(.slice A xs.length c)),(5,(pB ab8)),(6,(pB ab10)),(7,(.func (.func 79) #[] #[(pB ab8),(pB ab10)])),(41,(.slice A xs.length c)),(42,(iV ((xs.length: Nat): Int))),(43,(iV ((k: Nat): Int)))]∧Step w0 H L w H14 (en_0::en_1::(eO ab8 22 #[(.slice (some ⟨b4,0,none⟩) bs.length bs.length)])::(eO ab10 28 #[(.slice (some ⟨b6,0,none⟩) bs.length bs.length)])::(eO p 88 #[(.slice Abm3 bs.length cbm3),(.slice Atm3 bs.length ctm3),(iV h.u)])::ebm3::etm3::(fl3 fsm3))∧(Row (.slice (some ⟨b4,0,none⟩) bs.length bs.length) en_0 3 1 bs.length (ints xs_0))∧(xs_0.length=bs.length)∧(Row (.slice (some ⟨b6,0,none⟩) bs.length bs.length) en_1 4 1 bs.length (bls xs_1))∧((xs_0,xs_1)=(xs.take k).foldl noteW (List.replicate (er bs).length 0,List.replicate (er bs).length false))∧(CB xs_0 k)∧(xs_0.length=bs.length)∧(xs_1.length=bs.length)∧(k≤xs.length)) _ ⟨0,(List.replicate bs.length 0),(eO b4 3 (ints (List.replicate bs.length 0)).toArray),(List.replicate bs.length false),(eO b6 4 (bls (List.replicate bs.length false)).toArray),rfl,ha.pk rfl,hS,hR4,(by first | omega | simp),hR6,(by rw [bP];rfl),(CB.zero _),(by simp),(by simp),(by omega)⟩ ?_)));intro n15 a w hh;obtain⟨k,xs_0,en_0,xs_1,en_1,hn15,ha,hS,hR_0,hL_0,hR_1,hcf,hcb,hn1_,hn2_,hk⟩:=hh;refine wp_seq (ab (lin rfl (bm (i:=((k: Nat): Int)) (j:=((xs.length: Nat): Int)) ha rfl rfl rfl fun a ha=>?_)));refine wpList_nil (aa (wp_seq (an (t:=44) ha rfl (fun h16 ha=>?_) (fun h16 ha=>?_))))
  ·refine ao ha rfl (wp_skip (aa (wp_seq (wp_block (wp_seq (ab ?_))))));obtain⟨x17,b17,off17,e17,cs17,fz17,hx17,hA17,hb17,hc17⟩:=hr.get (j:=k) (by first | omega |(simp;omega));refine lin rfl (aD (b:=b17) (o:=off17) (j:=k) T29.und T34 hA17 ha rfl rfl (by omega) (by omega) rfl fun a ha=>?_);refine lin rfl (al (vs:=(wL x17)) T34 rfl ha rfl (hS.blkH hb17) rfl hc17 rfl fun a ha=>?_);refine lin rfl (aE (cs:= #[(iV 0),(iV 0),(.string (⟨#[]⟩)),(.bool false)]) T34 hS ha rfl rfl fun b18 a w hS ha=>?_);refine lin rfl (aj (cs':=(wA x17)) T34 hS (i:=0) rfl ha rfl rfl rfl rfl rfl rfl fun a w hS ha=>?_);refine wpList_nil (aa (ab (Lm rfl ha fun a ha=>?_)));refine lin rfl (al (vs:=(wL x17)) T34 rfl ha rfl (hS.blkL 0 rfl) rfl (ag rfl) rfl fun a ha=>?_);have hS:=hS.front 7 rfl;have hS:=hS.front 7 rfl;have hS:=hS.front 7 rfl;have hS:=hS.front 3 rfl;have hS:=hS.front 5 rfl;have hS:=hS.front 7 rfl;have hS:=hS.front 6 rfl;have hS:=hS.front 7 rfl;have hk21:=c_note (x:=x17) (Inv.head [(eO ab8 22 #[(.slice (some ⟨b4,0,none⟩) bs.length bs.length)]),en_0,(eO ab10 28 #[(.slice (some ⟨b6,0,none⟩) bs.length bs.length)]),en_1] (B:=((eO b18 34 (wA x17))::(eO p 88 #[(.slice Abm3 bs.length cbm3),(.slice Atm3 bs.length ctm3),(iV h.u)])::ebm3::etm3::(fl3 fsm3))) hS.inv) hR_0 hR_1 (by omega) (by omega) (fun h_=>by have h2_:=cX (allS_at hall_ hx17) h_;rw [bP] at h2_;exact h2_) ((CB.le hcb (by omega): CB xs_0 100000000));refine lin rfl (bl func79 rfl rfl (ha.evs rfl) ha rfl rfl (hk21) ?_);rintro e w ⟨ena20,enb20,rfl,hRa20,hRb20,hc20⟩;refine⟨_,rfl,fun a ha=>?_⟩;have hS:=Step.frame (Lc:= [(eO ab8 22 #[(.slice (some ⟨b4,0,none⟩) bs.length bs.length)]),en_0,(eO ab10 28 #[(.slice (some ⟨b6,0,none⟩) bs.length bs.length)]),en_1]) (R:=((eO b18 34 (wA x17))::(eO p 88 #[(.slice Abm3 bs.length cbm3),(.slice Atm3 bs.length ctm3),(iV h.u)])::ebm3::etm3::(fl3 fsm3))) hS hc20;have hnl1_:=dv (xs_0,xs_1) x17;have hnl2_:=dC (xs_0,xs_1) x17;dsimp only at hnl1_ hnl2_;refine wpList_nil (ap (aa (ab (lin rfl (aM (i:=((k: Nat): Int)) (j:=1) ha rfl rfl rfl (by omega) fun a ha=>?_)))));refine Lm rfl ha fun a ha=>?_;refine wpList_nil (aa (?_));have hS:=hS.front 4 rfl;have hS:=hS.drop;have hS:=hS.front 6 rfl;have hS:=hS.front 6 rfl;have hS:=hS.front 6 rfl;have hS:=hS.front 5 rfl;have hS:=hS.front 4 rfl;have hS:=hS.front 6 rfl;have hS:=hS.front 6 rfl;exact⟨xs.length - (k+1),by omega,(k+1),(noteW (xs_0,xs_1) x17).1,ena20,(noteW (xs_0,xs_1) x17).2,enb20,rfl,ha.pk rfl,hS,hRa20,(by omega),hRb20,(by rw [fold_note hx17,← hcf]),(hcb.note (c:=(xs_0,xs_1)) x17),(by omega),(by omega),(by omega)⟩
  ·obtain rfl: k=xs.length:=by omega
   rw [List.take_length] at hcf;have hc0_:(xs_0,xs_1)=c0S (er bs) xs:=hcf;refine ai ha rfl (wp_exit (aA (aA (aV (aa (wp_seq ?_))))));have hS:=Step.castB [en_0,en_1,(eO ab8 22 #[(.slice (some ⟨b4,0,none⟩) bs.length bs.length)]),(eO ab10 28 #[(.slice (some ⟨b6,0,none⟩) bs.length bs.length)])] hS hEm3;refine ab (Lm rfl ha fun a ha=>?_);refine Lm rfl ha fun a ha=>?_;have hk23:=c_blocks (p:=p) hS.inv.nil hr;refine lin rfl (aC func82 rfl rfl (ha.evs rfl) ha rfl (hk23) ?_);rintro e w ⟨H22,qa22,qb22,rfl,hqa22,hqb22,hrb22,hc22⟩;refine⟨_,rfl,fun a ha=>?_⟩;have hS:=hS.call hc22;have hk25:=c_CollectM (hS.tail [en_0,en_1,(eO ab8 22 #[(.slice (some ⟨b4,0,none⟩) bs.length bs.length)]),(eO ab10 28 #[(.slice (some ⟨b6,0,none⟩) bs.length bs.length)])]) hrb22 hP hqa22 hqb22;refine lin rfl (aC func81 rfl rfl (ha.evs rfl) ha rfl (hk25) ?_);rintro e w ⟨H24,A24,c24,en24,rfl,hR24,hc24⟩;refine⟨_,rfl,fun a ha=>?_⟩;have hS:=Step.frameR [en_0,en_1,(eO ab8 22 #[(.slice (some ⟨b4,0,none⟩) bs.length bs.length)]),(eO ab10 28 #[(.slice (some ⟨b6,0,none⟩) bs.length bs.length)])] hS hc24;refine Ls rfl ha fun a ha=>?_;refine wpList_nil (aa (wp_seq (wp_seq ?_)));obtain⟨Abm27,cbm27,Atm27,ctm27,ebm27,etm27,fsm27,hEm27,hLbm27,hLtm27,hRbm27,hRtm27,hNm27,hFm27⟩:=(hP).open_;have hS:=Step.castR [en_0,en_1,(eO ab8 22 #[(.slice (some ⟨b4,0,none⟩) bs.length bs.length)]),(eO ab10 28 #[(.slice (some ⟨b6,0,none⟩) bs.length bs.length)]),en24] hEm27 hS;have hbl0_:(BL (er bs) xs).length≤bs.length:=by
    have h_:=BL_len (S:=er bs) (roots:=xs);rw [bP] at h_;exact h_
   refine ab (Lm rfl ha fun a ha=>?_);refine lin rfl (aK T22.und ha rfl rfl fun a ha=>?_);refine Lm rfl ha fun a ha=>?_;refine wpList_nil (aa (wp_block (bn (fun nn_ a w=> ∃(kb: Nat),∃(xs_2: List Int),∃(en_2: Ent),∃(xs_3: List Bool),∃(en_3: Ent),nn_=(BL (er bs) xs).length - kb∧Has [] a 122 [(0,(pB p)),(5,(pB ab8)),(6,(pB ab10)),(7,(.func (.func 79) #[] #[(pB ab8),(pB ab10)])),(10,(.slice A24 ((BL (er bs) xs).length) c24)),(55,(.slice A24 ((BL (er bs) xs).length) c24)),(56,(iV (((BL (er bs) xs).length: Nat): Int))),(57,(iV ((kb: Nat): Int)))]∧Step w0 H L w H24 (en_2::en_3::(eO ab8 22 #[(.slice (some ⟨b4,0,none⟩) bs.length bs.length)])::(eO ab10 28 #[(.slice (some ⟨b6,0,none⟩) bs.length bs.length)])::en24::(eO p 88 #[(.slice Abm27 bs.length cbm27),(.slice Atm27 bs.length ctm27),(iV h.u)])::ebm27::etm27::(fl3 fsm27))∧(Row (.slice (some ⟨b4,0,none⟩) bs.length bs.length) en_2 3 1 bs.length (ints xs_2))∧(xs_2.length=bs.length)∧(Row (.slice (some ⟨b6,0,none⟩) bs.length bs.length) en_3 4 1 bs.length (bls xs_3))∧(noteB (er bs) (xs_2,xs_3) ((blocksS (er bs) xs).drop kb)=noteB (er bs) (c0S (er bs) xs) (blocksS (er bs) xs))∧(CB xs_2 (xs.length+64 * kb))∧(xs_2.length=bs.length)∧(xs_3.length=bs.length)∧(kb≤(BL (er bs) xs).length)) _ ⟨0,xs_0,en_0,xs_1,en_1,rfl,ha.pk rfl,hS,hR_0,(by first | omega | simp),hR_1,(by rw [hc0_];rfl),(hcb.le (by omega)),hn1_,hn2_,(by omega)⟩ ?_)));intro n28 a w hh;obtain⟨kb,xs_2,en_2,xs_3,en_3,hn28,ha,hS,hR_2,hL_2,hR_3,hnb,hcb,hn1_,hn2_,hkb⟩:=hh;refine wp_seq (ab (lin rfl (bm (i:=((kb: Nat): Int)) (j:=(((BL (er bs) xs).length: Nat): Int)) ha rfl rfl rfl fun a ha=>?_)));refine wpList_nil (aa (wp_seq (an (t:=58) ha rfl (fun h29 ha=>?_) (fun h29 ha=>?_))))
   ·refine ao ha rfl (wp_skip (aa (wp_seq (wp_block (wp_seq (ab ?_))))));obtain⟨b30,cap30,cur30,hv30,he30,hc30, -⟩:=hR24.at_ (j:=kb) (by omega);have hA30:(A24: Option Addr)=some ⟨b30,0,none⟩:=by injection hv30
    obtain⟨x30,hx30⟩: ∃ x,(BL (er bs) xs)[kb]? =some x:=⟨_,List.getElem?_eq_getElem (by first | omega |(simp;omega))⟩;have hc30:=hc30 0 (iV x30) (by omega) (ci hx30);refine lin rfl (aD (b:=b30) (o:=0) (j:=kb) T22.und T3 hA30 ha rfl rfl (by omega) (by omega) rfl fun a ha=>?_);refine lin rfl (af (v:=(iV x30)) T3 rfl ha rfl (hS.blkL 4 (b:=b30) (o:=.cells cur30 3 (0,0)) (by rw [← he30];rfl)) hc30 rfl fun a ha=>?_);refine Ls rfl ha fun a ha=>?_;refine wpList_nil (aa (wp_seq ?_));obtain⟨j_,pb_,rfl,hjk_,hjb_,hjl_⟩:=BL_get hx30;rw [bP] at hjl_;have hbj0_: ∃ bk_,bs[j_]? =some (some bk_)∧bk_.2=pb_:=by
     rw [dZ] at hjb_
     cases hq_: bs[j_]? with
     | none=>rw [hq_] at hjb_;cases hjb_
     | some o_ =>
      rw [hq_] at hjb_
      cases o_ with
      | none=>cases hjb_
      | some bk_=>exact ⟨bk_,rfl,by simpa using hjb_⟩
    obtain⟨bk_,hbj_,rfl⟩:=hbj0_;refine ab (Lm rfl ha fun a ha=>?_);refine lin rfl (aw ha rfl rfl fun a ha=>?_);refine lin rfl (ac (f:=0) (o2:=0) T88 T86 rfl rfl rfl rfl ha rfl rfl fun a ha=>?_);refine lin rfl (af (v:=(.slice Abm27 bs.length cbm27)) T86 rfl ha rfl (hS.blkL 5 rfl) rfl rfl fun a ha=>?_);refine Lm rfl ha fun a ha=>?_;obtain⟨x31,b31,cap31,cur31,hx31,hv31,he31,hc31⟩:=Row.getG ch (by decide) hRbm27 (j:=j_) (by omega);have hA31:(Abm27: Option Addr)=some ⟨b31,0,none⟩:=by injection hv31
    refine lin rfl (aD (b:=b31) (o:=0) (j:=j_) T86.und T90 hA31 ha rfl rfl (by omega) (by omega) rfl fun a ha=>?_);refine lin rfl (af (v:=(bkv x31)) T90 rfl ha rfl (hS.blkL 6 (b:=b31) (o:=.cells cur31 90 (0,0)) (by rw [← he31];rfl)) (hc31 0 _ rfl) rfl fun a ha=>?_);obtain rfl: x31=some bk_:=Option.some.inj (hx31.symm.trans hbj_);obtain⟨t32,ht32,hB32⟩:=hFm27.get hbj_;have hok32:=hFm27.ok _ _ hbj_;have hwl_:=hok32.words;refine lin rfl (cO hS (bE [en_2,en_3,(eO ab8 22 #[(.slice (some ⟨b4,0,none⟩) bs.length bs.length)]),(eO ab10 28 #[(.slice (some ⟨b6,0,none⟩) bs.length bs.length)]),en24,(eO p 88 #[(.slice Abm27 bs.length cbm27),(.slice Atm27 bs.length ctm27),(iV h.u)]),ebm27,etm27] (bg ht32)) hB32 hok32 ha rfl rfl fun A33 c33 hRa33 a w hS ha=>?_);refine lin rfl (aK T29.und ha rfl rfl fun a ha=>?_);refine Lm rfl ha fun a ha=>?_;refine wpList_nil (aa (wp_block (bn (fun nn_ a w=> ∃(k2: Nat),∃(xs_4: List Int),∃(en_4: Ent),∃(xs_5: List Bool),∃(en_5: Ent),nn_=bk_.2.words.length - k2∧Has [] a 122 [(0,(pB p)),(5,(pB ab8)),(6,(pB ab10)),(7,(.func (.func 79) #[] #[(pB ab8),(pB ab10)])),(10,(.slice A24 ((BL (er bs) xs).length) c24)),(55,(.slice A24 ((BL (er bs) xs).length) c24)),(56,(iV (((BL (er bs) xs).length: Nat): Int))),(57,(iV ((kb: Nat): Int))),(68,(.slice A33 bk_.2.words.length c33)),(69,(iV ((bk_.2.words.length: Nat): Int))),(70,(iV ((k2: Nat): Int)))]∧Step w0 H L w H24 (en_4::en_5::(eO ab8 22 #[(.slice (some ⟨b4,0,none⟩) bs.length bs.length)])::(eO ab10 28 #[(.slice (some ⟨b6,0,none⟩) bs.length bs.length)])::en24::(eO p 88 #[(.slice Abm27 bs.length cbm27),(.slice Atm27 bs.length ctm27),(iV h.u)])::ebm27::etm27::(fl3 fsm27))∧(Row (.slice (some ⟨b4,0,none⟩) bs.length bs.length) en_4 3 1 bs.length (ints xs_4))∧(xs_4.length=bs.length)∧(Row (.slice (some ⟨b6,0,none⟩) bs.length bs.length) en_5 4 1 bs.length (bls xs_5))∧(noteL (er bs) (xs_4,xs_5) (bk_.2.words.drop k2)=noteL (er bs) (xs_2,xs_3) bk_.2.words)∧(CB xs_4 (xs.length+64 * kb+k2))∧(xs_4.length=bs.length)∧(xs_5.length=bs.length)∧(k2≤bk_.2.words.length)) _ ⟨0,xs_2,en_2,xs_3,en_3,rfl,ha.pk rfl,hS,hR_2,(by first | omega | simp),hR_3,rfl,hcb,hn1_,hn2_,(by omega)⟩ ?_)));intro n34 a w hh;obtain⟨k2,xs_4,en_4,xs_5,en_5,hn34,ha,hS,hR_4,hL_4,hR_5,hnl,hcb,hn1_,hn2_,hk2⟩:=hh;refine wp_seq (ab (lin rfl (bm (i:=((k2: Nat): Int)) (j:=((bk_.2.words.length: Nat): Int)) ha rfl rfl rfl fun a ha=>?_)));refine wpList_nil (aa (wp_seq (an (t:=71) ha rfl (fun h35 ha=>?_) (fun h35 ha=>?_))))
    ·refine ao ha rfl (wp_skip (aa (wp_seq (wp_block (wp_seq (ab ?_))))));obtain⟨x36,b36,cap36,cur36,hx36,hv36,he36,hc36⟩:=Row.getG Wd.len (by decide) hRa33 (j:=k2) (by omega);have hA36:(A33: Option Addr)=some ⟨b36,0,none⟩:=by injection hv36
     have hmr36:=(bi ht32);rw [he36] at hmr36;refine lin rfl (aD (b:=b36) (o:=0) (j:=k2) T29.und T34 hA36 ha rfl rfl (by omega) (by omega) rfl fun a ha=>?_);refine lin rfl (al (vs:=(wL x36)) T34 rfl ha rfl (hS.at_mem [en_4,en_5,(eO ab8 22 #[(.slice (some ⟨b4,0,none⟩) bs.length bs.length)]),(eO ab10 28 #[(.slice (some ⟨b6,0,none⟩) bs.length bs.length)]),en24,(eO p 88 #[(.slice Abm27 bs.length cbm27),(.slice Atm27 bs.length ctm27),(iV h.u)]),ebm27,etm27] hmr36) rfl hc36 rfl fun a ha=>?_);refine lin rfl (aE (cs:= #[(iV 0),(iV 0),(.string (⟨#[]⟩)),(.bool false)]) T34 hS ha rfl rfl fun b37 a w hS ha=>?_);refine lin rfl (aj (cs':=(wA x36)) T34 hS (i:=0) rfl ha rfl rfl rfl rfl rfl rfl fun a w hS ha=>?_);refine wpList_nil (aa (wp_seq (wp_seq (ab (Lm rfl ha fun a ha=>?_)))));refine lin rfl (al (vs:=(wL x36)) T34 rfl ha rfl (hS.blkL 0 rfl) rfl (ag rfl) rfl fun a ha=>?_);have hk39:=d4 (x:=x36) (hS.tail [(eO b37 34 (wA x36)),en_4,en_5,(eO ab8 22 #[(.slice (some ⟨b4,0,none⟩) bs.length bs.length)]),(eO ab10 28 #[(.slice (some ⟨b6,0,none⟩) bs.length bs.length)]),en24]) (HP.mk' (by first | exact hLbm27 | exact List.length_set.trans hLbm27 |(simp only [List.length_set];done) |(simp only [List.length_set];exact hLbm27)) (by first | exact hLtm27 | exact List.length_set.trans hLtm27 |(simp only [List.length_set];done) |(simp only [List.length_set];exact hLtm27)) hRbm27 hRtm27 hNm27 hFm27);refine lin rfl (aC func55 rfl rfl (ha.evs rfl) ha rfl (hk39) ?_);rintro e w ⟨rfl,hc⟩;refine⟨_,rfl,fun a ha=>?_⟩;have hS:=hS.frameR [(eO b37 34 (wA x36)),en_4,en_5,(eO ab8 22 #[(.slice (some ⟨b4,0,none⟩) bs.length bs.length)]),(eO ab10 28 #[(.slice (some ⟨b6,0,none⟩) bs.length bs.length)]),en24] hc;refine lin rfl (aT ha rfl rfl fun a ha=>?_);refine wpList_nil (aa (ar (t:=77) ha rfl (fun h40 ha=>?_) (fun h40 ha=>?_)))
     ·refine ao ha rfl (wp_seq (ab (Ls rfl ha fun a ha=>?_)));refine wpList_nil (aa (wp_ret (ah (ay (ah (ah (ay (ay (ah (ah (ay (ah (ret1 rfl ha rfl ?_)))))))))))));have hS:=Step.castB [(eO b37 34 (wA x36)),en_4,en_5,(eO ab8 22 #[(.slice (some ⟨b4,0,none⟩) bs.length bs.length)]),(eO ab10 28 #[(.slice (some ⟨b6,0,none⟩) bs.length bs.length)]),en24] hS hEm27;have hS:=hS.drop;have hS:=hS.drop;have hS:=hS.drop;have hS:=hS.drop;have hS:=hS.drop;have hS:=hS.drop;have hq_: auditS (er bs) xs=213:=audit_none hall_ (by rw [← hnb,noteB_bad hjk_ (by rw [dA hjb_,← hnl];exact noteL_bad hx36 (by simpa using h40))]);rw [hbs] at hq_;rw [hq_];exact⟨_,rfl,hS⟩
     ·have hword_:=(show wordS (er bs) _=true by simpa using h40);refine ai ha rfl (wp_skip (aa (ab (Lm rfl ha fun a ha=>?_))));refine lin rfl (al (vs:=(wL x36)) T34 rfl ha rfl (hS.blkL 0 rfl) rfl (ag rfl) rfl fun a ha=>?_);have hS:=hS.front 8 rfl;have hS:=hS.front 8 rfl;have hS:=hS.front 8 rfl;have hS:=hS.front 8 rfl;have hS:=hS.front 4 rfl;have hS:=hS.front 6 rfl;have hS:=hS.front 8 rfl;have hS:=hS.front 7 rfl;have hS:=hS.front 8 rfl;have hk42:=c_note (x:=x36) (Inv.head [(eO ab8 22 #[(.slice (some ⟨b4,0,none⟩) bs.length bs.length)]),en_4,(eO ab10 28 #[(.slice (some ⟨b6,0,none⟩) bs.length bs.length)]),en_5] (B:=((eO b37 34 (wA x36))::en24::(eO p 88 #[(.slice Abm27 bs.length cbm27),(.slice Atm27 bs.length ctm27),(iV h.u)])::ebm27::etm27::(fl3 fsm27))) hS.inv) hR_4 hR_5 (by omega) (by omega) (fun h_=>by have h2_:=cX hword_ h_;rw [bP] at h2_;exact h2_) ((CB.le hcb (by omega): CB xs_4 100000000));refine lin rfl (bl func79 rfl rfl (ha.evs rfl) ha rfl rfl (hk42) ?_);rintro e w ⟨ena41,enb41,rfl,hRa41,hRb41,hc41⟩;refine⟨_,rfl,fun a ha=>?_⟩;have hS:=Step.frame (Lc:= [(eO ab8 22 #[(.slice (some ⟨b4,0,none⟩) bs.length bs.length)]),en_4,(eO ab10 28 #[(.slice (some ⟨b6,0,none⟩) bs.length bs.length)]),en_5]) (R:=((eO b37 34 (wA x36))::en24::(eO p 88 #[(.slice Abm27 bs.length cbm27),(.slice Atm27 bs.length ctm27),(iV h.u)])::ebm27::etm27::(fl3 fsm27))) hS hc41;have hnl1_:=dv (xs_4,xs_5) x36;have hnl2_:=dC (xs_4,xs_5) x36;dsimp only at hnl1_ hnl2_;refine wpList_nil (ap (aa (ab (lin rfl (aM (i:=((k2: Nat): Int)) (j:=1) ha rfl rfl rfl (by omega) fun a ha=>?_)))));refine Lm rfl ha fun a ha=>?_;refine wpList_nil (aa (?_));have hS:=hS.front 4 rfl;have hS:=hS.drop;have hS:=hS.front 7 rfl;have hS:=hS.front 7 rfl;have hS:=hS.front 7 rfl;have hS:=hS.front 7 rfl;have hS:=hS.front 6 rfl;have hS:=hS.front 5 rfl;have hS:=hS.front 7 rfl;have hS:=hS.front 7 rfl;exact⟨bk_.2.words.length - (k2+1),by omega,(k2+1),(noteW (xs_4,xs_5) x36).1,ena41,(noteW (xs_4,xs_5) x36).2,enb41,rfl,ha.pk rfl,hS,hRa41,(by omega),hRb41,(by rw [← hnl,noteL_step hx36 hword_]),((hcb.note (c:=(xs_4,xs_5)) x36).le (by omega)),(by omega),(by omega),(by omega)⟩
    ·refine ai ha rfl (wp_exit (aA (aA (aV (ap (aa (ab (lin rfl (aM (i:=((kb: Nat): Int)) (j:=1) ha rfl rfl rfl (by omega) fun a ha=>?_)))))))));refine Lm rfl ha fun a ha=>?_;refine wpList_nil (aa (?_));have hdn_: noteL (er bs) (xs_4,xs_5) (bk_.2.words.drop k2)=some (xs_4,xs_5):=by rw [List.drop_of_length_le (by omega)];rfl
     rw [hdn_] at hnl;exact⟨(BL (er bs) xs).length - (kb+1),by omega,(kb+1),xs_4,en_4,xs_5,en_5,rfl,ha.pk rfl,hS,hR_4,(by omega),hR_5,(by rw [← hnb,noteB_step hjk_ (by rw [dA hjb_];exact hnl.symm)]),(hcb.le (by omega)),hn1_,hn2_,(by omega)⟩
   ·have hbl_:(blocksS (er bs) xs).length=(BL (er bs) xs).length:=by unfold BL;rw [List.length_map]
    have hnbd_: noteB (er bs) (c0S (er bs) xs) (blocksS (er bs) xs)=some (xs_2,xs_3):=by rw [← hnb,List.drop_of_length_le (by omega)];rfl
    refine ai ha rfl (wp_exit (aA (aA (aV (aa (wp_seq (wp_seq (ab (Lm rfl ha fun a ha=>?_)))))))));refine lin rfl (aK T22.und ha rfl rfl fun a ha=>?_);refine Lm rfl ha fun a ha=>?_;refine wpList_nil (aa (wp_block (bn (fun nn_ a w=> ∃(ka: Nat),nn_=(BL (er bs) xs).length - ka∧Has [] a 122 [(0,(pB p)),(5,(pB ab8)),(6,(pB ab10)),(83,(.slice A24 ((BL (er bs) xs).length) c24)),(84,(iV (((BL (er bs) xs).length: Nat): Int))),(85,(iV ((ka: Nat): Int)))]∧Step w0 H L w H24 (en_2::en_3::(eO ab8 22 #[(.slice (some ⟨b4,0,none⟩) bs.length bs.length)])::(eO ab10 28 #[(.slice (some ⟨b6,0,none⟩) bs.length bs.length)])::en24::(eO p 88 #[(.slice Abm27 bs.length cbm27),(.slice Atm27 bs.length ctm27),(iV h.u)])::ebm27::etm27::(fl3 fsm27))∧(ka≤(BL (er bs) xs).length)∧(∀(i j: Nat),i < ka→(blocksS (er bs) xs)[i]? =some j→badAt (er bs) (xs_2,xs_3) j=false)) _ ⟨0,rfl,ha.pk rfl,hS,(by omega),(fun i j h _=>by omega)⟩ ?_)));intro n43 a w hh;obtain⟨ka,hn43,ha,hS,hka,hno⟩:=hh;refine wp_seq (ab (lin rfl (bm (i:=((ka: Nat): Int)) (j:=(((BL (er bs) xs).length: Nat): Int)) ha rfl rfl rfl fun a ha=>?_)));refine wpList_nil (aa (wp_seq (an (t:=86) ha rfl (fun h44 ha=>?_) (fun h44 ha=>?_))))
    ·refine ao ha rfl (wp_skip (aa (wp_seq (wp_block (wp_seq (ab ?_))))));obtain⟨b45,cap45,cur45,hv45,he45,hc45, -⟩:=hR24.at_ (j:=ka) (by omega);have hA45:(A24: Option Addr)=some ⟨b45,0,none⟩:=by injection hv45
     obtain⟨x45,hx45⟩: ∃ x,(BL (er bs) xs)[ka]? =some x:=⟨_,List.getElem?_eq_getElem (by first | omega |(simp;omega))⟩;have hc45:=hc45 0 (iV x45) (by omega) (ci hx45);refine lin rfl (aD (b:=b45) (o:=0) (j:=ka) T22.und T3 hA45 ha rfl rfl (by omega) (by omega) rfl fun a ha=>?_);refine lin rfl (af (v:=(iV x45)) T3 rfl ha rfl (hS.blkL 4 (b:=b45) (o:=.cells cur45 3 (0,0)) (by rw [← he45];rfl)) hc45 rfl fun a ha=>?_);refine Ls rfl ha fun a ha=>?_;refine wpList_nil (aa (wp_seq (ab (Ls rfl ha fun a ha=>?_))));refine wpList_nil (aa (wp_seq (wp_seq ?_)));obtain⟨j_,pb_,rfl,hjk_,hjb_,hjl_⟩:=BL_get hx45;rw [bP] at hjl_;have hbj0_: ∃ bk_,bs[j_]? =some (some bk_)∧bk_.2=pb_:=by
      rw [dZ] at hjb_
      cases hq_: bs[j_]? with
      | none=>rw [hq_] at hjb_;cases hjb_
      | some o_ =>
       rw [hq_] at hjb_
       cases o_ with
       | none=>cases hjb_
       | some bk_=>exact ⟨bk_,rfl,by simpa using hjb_⟩
     obtain⟨bk_,hbj_,rfl⟩:=hbj0_;refine ab (Lm rfl ha fun a ha=>?_);refine lin rfl (aw ha rfl rfl fun a ha=>?_);refine lin rfl (ac (f:=0) (o2:=0) T88 T86 rfl rfl rfl rfl ha rfl rfl fun a ha=>?_);refine lin rfl (af (v:=(.slice Abm27 bs.length cbm27)) T86 rfl ha rfl (hS.blkL 5 rfl) rfl rfl fun a ha=>?_);refine Lm rfl ha fun a ha=>?_;obtain⟨x46,b46,cap46,cur46,hx46,hv46,he46,hc46⟩:=Row.getG ch (by decide) hRbm27 (j:=j_) (by omega);have hA46:(Abm27: Option Addr)=some ⟨b46,0,none⟩:=by injection hv46
     refine lin rfl (aD (b:=b46) (o:=0) (j:=j_) T86.und T90 hA46 ha rfl rfl (by omega) (by omega) rfl fun a ha=>?_);refine lin rfl (af (v:=(bkv x46)) T90 rfl ha rfl (hS.blkL 6 (b:=b46) (o:=.cells cur46 90 (0,0)) (by rw [← he46];rfl)) (hc46 0 _ rfl) rfl fun a ha=>?_)
     rcases x46 with _ |⟨q47,⟨to47,hk47⟩ |⟨nm47,ws47⟩ |⟨ws47⟩⟩
     ·exact absurd (Option.some.inj (hx46.symm.trans hbj_)) (by simp)
     ·have hx47:=hx46;obtain rfl: bk_=(q47,PB.var to47 hk47):=Option.some.inj (Option.some.inj (hbj_.symm.trans hx47));refine lin rfl (bj T92.und ha rfl rfl fun a ha=>?_);refine Lm rfl ha fun a ha=>?_;refine lin rfl (ad (v:=(pB q47)) ha rfl rfl rfl fun a ha=>?_);refine lin rfl (ad (v:=(.bool true)) ha rfl rfl rfl fun a ha=>?_);refine Ls rfl ha fun a ha=>?_;refine Ls rfl ha fun a ha=>?_;refine wpList_nil (aa (wp_seq (ab (Lm rfl ha fun a ha=>?_))));refine Lm rfl ha fun a ha=>?_;refine ae rfl ha rfl rfl rfl (ak ha rfl rfl fun a ha=>?_);refine ae rfl ha rfl rfl rfl (aw ha rfl rfl fun a ha=>?_);obtain⟨t47,ht47,hB47⟩:=hFm27.get hx47;obtain⟨A47,c47,A247,c247,hq47,hRa47,hRh47⟩:=hB47;have hm147:=bg ht47;have hm247:=bi ht47;have hm347:=bp ht47;rw [hq47] at hm147;have hok47:=hFm27.ok _ _ hx47;have hkl1_47: to47.length≤1:=hok47.1;have hkl2_47: hk47.length≤4000:=hok47.2;refine ae rfl ha rfl rfl rfl (ac (f:=0) (o2:=0) T95 T29 rfl rfl rfl rfl ha rfl rfl fun a ha=>?_);refine ae rfl ha rfl rfl rfl (af (v:=(.slice A47 to47.length c47)) T29 rfl ha rfl (hS.at_mem [en_2,en_3,(eO ab8 22 #[(.slice (some ⟨b4,0,none⟩) bs.length bs.length)]),(eO ab10 28 #[(.slice (some ⟨b6,0,none⟩) bs.length bs.length)]),en24,(eO p 88 #[(.slice Abm27 bs.length cbm27),(.slice Atm27 bs.length ctm27),(iV h.u)]),ebm27,etm27] hm147) rfl rfl fun a ha=>?_);refine ae rfl ha rfl rfl rfl (aK T29.und ha rfl rfl fun a ha=>?_);refine ae rfl ha rfl rfl rfl (bq (i:=((to47.length: Nat): Int)) (j:=0) ha rfl rfl rfl fun a ha=>?_);refine lin rfl (aq ha rfl rfl rfl fun a ha=>?_);refine wpList_nil (aa (an (t:=108) ha rfl (fun h48 ha=>?_) (fun h48 ha=>?_)))
      ·refine ao ha rfl (ab (Ls rfl ha fun a ha=>?_));refine wpList_nil (aa (wp_seq (ab (lin rfl (af (v:=(.slice (some ⟨b6,0,none⟩) bs.length bs.length)) T28 rfl ha rfl (hS.blkL 3 rfl) rfl rfl fun a ha=>?_)))));refine Lm rfl ha fun a ha=>?_;obtain⟨b49,cap49,cur49,hv49,he49,hc49, -⟩:=hR_3.at_ (j:=j_) (by omega);have hA49:((some ⟨b6,0,none⟩): Option Addr)=some ⟨b49,0,none⟩:=by injection hv49
       obtain⟨x49,hx49⟩: ∃ x,xs_3[j_]? =some x:=⟨_,List.getElem?_eq_getElem (by first | omega |(simp;omega))⟩;have hc49:=hc49 0 (.bool x49) (by omega) (cg hx49);refine lin rfl (aD (b:=b49) (o:=0) (j:=j_) T28.und T4 hA49 ha rfl rfl (by omega) (by omega) rfl fun a ha=>?_);refine lin rfl (af (v:=(.bool x49)) T4 rfl ha rfl (hS.blkL 1 (b:=b49) (o:=.cells cur49 4 (0,0)) (by rw [← he49];rfl)) hc49 rfl fun a ha=>?_);refine Lm rfl ha fun a ha=>?_;refine ar (t:=113) ha rfl (fun h50 ha=>?_) (fun h50 ha=>?_)
       ·refine ae rfl ha rfl rfl rfl (af (v:=(.slice (some ⟨b4,0,none⟩) bs.length bs.length)) T22 rfl ha rfl (hS.blkL 2 rfl) rfl rfl fun a ha=>?_);refine ae rfl ha rfl rfl rfl (ak ha rfl rfl fun a ha=>?_);obtain⟨b51,cap51,cur51,hv51,he51,hc51, -⟩:=hR_2.at_ (j:=j_) (by omega);have hA51:((some ⟨b4,0,none⟩): Option Addr)=some ⟨b51,0,none⟩:=by injection hv51
        obtain⟨x51,hx51⟩: ∃ x,xs_2[j_]? =some x:=⟨_,List.getElem?_eq_getElem (by first | omega |(simp;omega))⟩;have hc51:=hc51 0 (iV x51) (by omega) (ci hx51);refine ae rfl ha rfl rfl rfl (aD (b:=b51) (o:=0) (j:=j_) T22.und T3 hA51 ha rfl rfl (by omega) (by omega) rfl fun a ha=>?_);refine ae rfl ha rfl rfl rfl (af (v:=(iV x51)) T3 rfl ha rfl (hS.blkL 0 (b:=b51) (o:=.cells cur51 3 (0,0)) (by rw [← he51];rfl)) hc51 rfl fun a ha=>?_);refine ae rfl ha rfl rfl rfl (ak ha rfl rfl fun a ha=>?_);refine ae rfl ha rfl rfl rfl (cK (i:=x51) (j:=2) ha rfl rfl rfl fun a ha=>?_);refine lin rfl (aq ha rfl rfl rfl fun a ha=>?_);refine wpList_nil (aa (an (t:=120) ha rfl (fun h52 ha=>?_) (fun h52 ha=>?_)))
        ·refine ao ha rfl (wp_seq (ab (Ls rfl ha fun a ha=>?_)));refine wpList_nil (aa (wp_ret (ay (ah (ah (ay (ah (ret1 rfl ha rfl ?_))))))));have hmo_: mostS (er bs) j_=2:=by
          unfold mostS;rw [List.getD_eq_getElem?_getD,hjb_]
          cases to47 with
          | nil=>rfl
          | cons y_ ys_=>(simp only [List.length_cons] at h48;omega)
         have hbad_: badAt (er bs) (xs_2,xs_3) j_=true:=by
          unfold badAt;simp only [hmo_,List.getD_eq_getElem?_getD,hx49,hx51,Option.getD_some];rw [h50,decide_eq_true h52];rfl
         have hS:=Step.castB [en_2,en_3,(eO ab8 22 #[(.slice (some ⟨b4,0,none⟩) bs.length bs.length)]),(eO ab10 28 #[(.slice (some ⟨b6,0,none⟩) bs.length bs.length)]),en24] hS hEm27;have hS:=hS.drop;have hS:=hS.drop;have hS:=hS.drop;have hS:=hS.drop;have hS:=hS.drop;have hq_: auditS (er bs) xs=213:=dl hall_ hnbd_ hjk_ hbad_;rw [hbs] at hq_;rw [hq_];exact⟨_,rfl,hS⟩
        ·refine ai ha rfl (wp_skip (ap (aa (ab (lin rfl (aM (i:=((ka: Nat): Int)) (j:=1) ha rfl rfl rfl (by omega) fun a ha=>?_))))));refine Lm rfl ha fun a ha=>?_;refine wpList_nil (aa (?_));have hmo_: mostS (er bs) j_=2:=by
          unfold mostS;rw [List.getD_eq_getElem?_getD,hjb_]
          cases to47 with
          | nil=>rfl
          | cons y_ ys_=>(simp only [List.length_cons] at h48;omega)
         have hbad_: badAt (er bs) (xs_2,xs_3) j_=false:=by
          unfold badAt;simp only [hmo_,List.getD_eq_getElem?_getD,hx49,hx51,Option.getD_some];rw [h50,decide_eq_false h52];rfl
         exact⟨(BL (er bs) xs).length - (ka+1),by omega,(ka+1),rfl,ha.pk rfl,hS,(by omega),(fun i j h h2_=>by
           by_cases e_: i=ka
           ·subst e_;rw [hjk_] at h2_;obtain rfl:=Option.some.inj h2_;exact hbad_
           ·exact hno i j (by omega) h2_)⟩
       ·refine Lf rfl ha rfl rfl fun a ha=>?_;refine Lf rfl ha rfl rfl fun a ha=>?_;refine Lf rfl ha rfl rfl fun a ha=>?_;refine Lf rfl ha rfl rfl fun a ha=>?_;refine Lf rfl ha rfl rfl fun a ha=>?_;refine Lf rfl ha rfl rfl fun a ha=>?_;refine lin rfl (am ha rfl rfl rfl fun a ha=>?_);refine wpList_nil (aa (ai ha rfl (wp_skip (ap (aa (ab (lin rfl (aM (i:=((ka: Nat): Int)) (j:=1) ha rfl rfl rfl (by omega) fun a ha=>?_))))))));refine Lm rfl ha fun a ha=>?_;refine wpList_nil (aa (?_));have hmo_: mostS (er bs) j_=2:=by
         unfold mostS;rw [List.getD_eq_getElem?_getD,hjb_]
         cases to47 with
         | nil=>rfl
         | cons y_ ys_=>(simp only [List.length_cons] at h48;omega)
        have hbad_: badAt (er bs) (xs_2,xs_3) j_=false:=by
         unfold badAt;simp only [hmo_,List.getD_eq_getElem?_getD,hx49,Option.getD_some];rw [h50];rfl
        exact⟨(BL (er bs) xs).length - (ka+1),by omega,(ka+1),rfl,ha.pk rfl,hS,(by omega),(fun i j h h2_=>by
          by_cases e_: i=ka
          ·subst e_;rw [hjk_] at h2_;obtain rfl:=Option.some.inj h2_;exact hbad_
          ·exact hno i j (by omega) h2_)⟩
      ·refine ai ha rfl (wp_skip (aa (wp_seq (ab (lin rfl (af (v:=(.slice (some ⟨b6,0,none⟩) bs.length bs.length)) T28 rfl ha rfl (hS.blkL 3 rfl) rfl rfl fun a ha=>?_))))));refine Lm rfl ha fun a ha=>?_;obtain⟨b53,cap53,cur53,hv53,he53,hc53, -⟩:=hR_3.at_ (j:=j_) (by omega);have hA53:((some ⟨b6,0,none⟩): Option Addr)=some ⟨b53,0,none⟩:=by injection hv53
       obtain⟨x53,hx53⟩: ∃ x,xs_3[j_]? =some x:=⟨_,List.getElem?_eq_getElem (by first | omega |(simp;omega))⟩;have hc53:=hc53 0 (.bool x53) (by omega) (cg hx53);refine lin rfl (aD (b:=b53) (o:=0) (j:=j_) T28.und T4 hA53 ha rfl rfl (by omega) (by omega) rfl fun a ha=>?_);refine lin rfl (af (v:=(.bool x53)) T4 rfl ha rfl (hS.blkL 1 (b:=b53) (o:=.cells cur53 4 (0,0)) (by rw [← he53];rfl)) hc53 rfl fun a ha=>?_);refine Lm rfl ha fun a ha=>?_;refine ar (t:=113) ha rfl (fun h54 ha=>?_) (fun h54 ha=>?_)
       ·refine ae rfl ha rfl rfl rfl (af (v:=(.slice (some ⟨b4,0,none⟩) bs.length bs.length)) T22 rfl ha rfl (hS.blkL 2 rfl) rfl rfl fun a ha=>?_);refine ae rfl ha rfl rfl rfl (ak ha rfl rfl fun a ha=>?_);obtain⟨b55,cap55,cur55,hv55,he55,hc55, -⟩:=hR_2.at_ (j:=j_) (by omega);have hA55:((some ⟨b4,0,none⟩): Option Addr)=some ⟨b55,0,none⟩:=by injection hv55
        obtain⟨x55,hx55⟩: ∃ x,xs_2[j_]? =some x:=⟨_,List.getElem?_eq_getElem (by first | omega |(simp;omega))⟩;have hc55:=hc55 0 (iV x55) (by omega) (ci hx55);refine ae rfl ha rfl rfl rfl (aD (b:=b55) (o:=0) (j:=j_) T22.und T3 hA55 ha rfl rfl (by omega) (by omega) rfl fun a ha=>?_);refine ae rfl ha rfl rfl rfl (af (v:=(iV x55)) T3 rfl ha rfl (hS.blkL 0 (b:=b55) (o:=.cells cur55 3 (0,0)) (by rw [← he55];rfl)) hc55 rfl fun a ha=>?_);refine ae rfl ha rfl rfl rfl (ak ha rfl rfl fun a ha=>?_);refine ae rfl ha rfl rfl rfl (cK (i:=x55) (j:=1) ha rfl rfl rfl fun a ha=>?_);refine lin rfl (aq ha rfl rfl rfl fun a ha=>?_);refine wpList_nil (aa (an (t:=120) ha rfl (fun h56 ha=>?_) (fun h56 ha=>?_)))
        ·refine ao ha rfl (wp_seq (ab (Ls rfl ha fun a ha=>?_)));refine wpList_nil (aa (wp_ret (ay (ah (ah (ay (ah (ret1 rfl ha rfl ?_))))))));have hmo_: mostS (er bs) j_=1:=by
          unfold mostS;rw [List.getD_eq_getElem?_getD,hjb_]
          cases to47 with
          | nil=>exact absurd rfl h48
          | cons y_ ys_=>rfl
         have hbad_: badAt (er bs) (xs_2,xs_3) j_=true:=by
          unfold badAt;simp only [hmo_,List.getD_eq_getElem?_getD,hx53,hx55,Option.getD_some];rw [h54,decide_eq_true h56];rfl
         have hS:=Step.castB [en_2,en_3,(eO ab8 22 #[(.slice (some ⟨b4,0,none⟩) bs.length bs.length)]),(eO ab10 28 #[(.slice (some ⟨b6,0,none⟩) bs.length bs.length)]),en24] hS hEm27;have hS:=hS.drop;have hS:=hS.drop;have hS:=hS.drop;have hS:=hS.drop;have hS:=hS.drop;have hq_: auditS (er bs) xs=213:=dl hall_ hnbd_ hjk_ hbad_;rw [hbs] at hq_;rw [hq_];exact⟨_,rfl,hS⟩
        ·refine ai ha rfl (wp_skip (ap (aa (ab (lin rfl (aM (i:=((ka: Nat): Int)) (j:=1) ha rfl rfl rfl (by omega) fun a ha=>?_))))));refine Lm rfl ha fun a ha=>?_;refine wpList_nil (aa (?_));have hmo_: mostS (er bs) j_=1:=by
          unfold mostS;rw [List.getD_eq_getElem?_getD,hjb_]
          cases to47 with
          | nil=>exact absurd rfl h48
          | cons y_ ys_=>rfl
         have hbad_: badAt (er bs) (xs_2,xs_3) j_=false:=by
          unfold badAt;simp only [hmo_,List.getD_eq_getElem?_getD,hx53,hx55,Option.getD_some];rw [h54,decide_eq_false h56];rfl
         exact⟨(BL (er bs) xs).length - (ka+1),by omega,(ka+1),rfl,ha.pk rfl,hS,(by omega),(fun i j h h2_=>by
           by_cases e_: i=ka
           ·subst e_;rw [hjk_] at h2_;obtain rfl:=Option.some.inj h2_;exact hbad_
           ·exact hno i j (by omega) h2_)⟩
       ·refine Lf rfl ha rfl rfl fun a ha=>?_;refine Lf rfl ha rfl rfl fun a ha=>?_;refine Lf rfl ha rfl rfl fun a ha=>?_;refine Lf rfl ha rfl rfl fun a ha=>?_;refine Lf rfl ha rfl rfl fun a ha=>?_;refine Lf rfl ha rfl rfl fun a ha=>?_;refine lin rfl (am ha rfl rfl rfl fun a ha=>?_);refine wpList_nil (aa (ai ha rfl (wp_skip (ap (aa (ab (lin rfl (aM (i:=((ka: Nat): Int)) (j:=1) ha rfl rfl rfl (by omega) fun a ha=>?_))))))));refine Lm rfl ha fun a ha=>?_;refine wpList_nil (aa (?_));have hmo_: mostS (er bs) j_=1:=by
         unfold mostS;rw [List.getD_eq_getElem?_getD,hjb_]
         cases to47 with
         | nil=>exact absurd rfl h48
         | cons y_ ys_=>rfl
        have hbad_: badAt (er bs) (xs_2,xs_3) j_=false:=by
         unfold badAt;simp only [hmo_,List.getD_eq_getElem?_getD,hx53,Option.getD_some];rw [h54];rfl
        exact⟨(BL (er bs) xs).length - (ka+1),by omega,(ka+1),rfl,ha.pk rfl,hS,(by omega),(fun i j h h2_=>by
          by_cases e_: i=ka
          ·subst e_;rw [hjk_] at h2_;obtain rfl:=Option.some.inj h2_;exact hbad_
          ·exact hno i j (by omega) h2_)⟩
     ·have hx47:=hx46;obtain rfl: bk_=(q47,PB.fn nm47 ws47):=Option.some.inj (Option.some.inj (hbj_.symm.trans hx47));refine lin rfl (aP T92 ha rfl rfl rfl fun a ha=>?_);refine Lm rfl ha fun a ha=>?_;refine lin rfl (ad (v:=(.pointer none)) ha rfl rfl rfl fun a ha=>?_);refine lin rfl (ad (v:=(.bool false)) ha rfl rfl rfl fun a ha=>?_);refine Ls rfl ha fun a ha=>?_;refine Ls rfl ha fun a ha=>?_;refine wpList_nil (aa (wp_seq (ab (Lm rfl ha fun a ha=>?_))));refine Lm rfl ha fun a ha=>?_;refine Lf rfl ha rfl rfl fun a ha=>?_;refine Lf rfl ha rfl rfl fun a ha=>?_;refine Lf rfl ha rfl rfl fun a ha=>?_;refine Lf rfl ha rfl rfl fun a ha=>?_;refine Lf rfl ha rfl rfl fun a ha=>?_;refine Lf rfl ha rfl rfl fun a ha=>?_;refine lin rfl (am ha rfl rfl rfl fun a ha=>?_);refine wpList_nil (aa (ai ha rfl (wp_skip (aa (wp_seq (ab (lin rfl (af (v:=(.slice (some ⟨b6,0,none⟩) bs.length bs.length)) T28 rfl ha rfl (hS.blkL 3 rfl) rfl rfl fun a ha=>?_))))))));refine Lm rfl ha fun a ha=>?_;obtain⟨b57,cap57,cur57,hv57,he57,hc57, -⟩:=hR_3.at_ (j:=j_) (by omega);have hA57:((some ⟨b6,0,none⟩): Option Addr)=some ⟨b57,0,none⟩:=by injection hv57
      obtain⟨x57,hx57⟩: ∃ x,xs_3[j_]? =some x:=⟨_,List.getElem?_eq_getElem (by first | omega |(simp;omega))⟩;have hc57:=hc57 0 (.bool x57) (by omega) (cg hx57);refine lin rfl (aD (b:=b57) (o:=0) (j:=j_) T28.und T4 hA57 ha rfl rfl (by omega) (by omega) rfl fun a ha=>?_);refine lin rfl (af (v:=(.bool x57)) T4 rfl ha rfl (hS.blkL 1 (b:=b57) (o:=.cells cur57 4 (0,0)) (by rw [← he57];rfl)) hc57 rfl fun a ha=>?_);refine Lm rfl ha fun a ha=>?_;refine ar (t:=113) ha rfl (fun h58 ha=>?_) (fun h58 ha=>?_)
      ·refine ae rfl ha rfl rfl rfl (af (v:=(.slice (some ⟨b4,0,none⟩) bs.length bs.length)) T22 rfl ha rfl (hS.blkL 2 rfl) rfl rfl fun a ha=>?_);refine ae rfl ha rfl rfl rfl (ak ha rfl rfl fun a ha=>?_);obtain⟨b59,cap59,cur59,hv59,he59,hc59, -⟩:=hR_2.at_ (j:=j_) (by omega);have hA59:((some ⟨b4,0,none⟩): Option Addr)=some ⟨b59,0,none⟩:=by injection hv59
       obtain⟨x59,hx59⟩: ∃ x,xs_2[j_]? =some x:=⟨_,List.getElem?_eq_getElem (by first | omega |(simp;omega))⟩;have hc59:=hc59 0 (iV x59) (by omega) (ci hx59);refine ae rfl ha rfl rfl rfl (aD (b:=b59) (o:=0) (j:=j_) T22.und T3 hA59 ha rfl rfl (by omega) (by omega) rfl fun a ha=>?_);refine ae rfl ha rfl rfl rfl (af (v:=(iV x59)) T3 rfl ha rfl (hS.blkL 0 (b:=b59) (o:=.cells cur59 3 (0,0)) (by rw [← he59];rfl)) hc59 rfl fun a ha=>?_);refine ae rfl ha rfl rfl rfl (ak ha rfl rfl fun a ha=>?_);refine ae rfl ha rfl rfl rfl (cK (i:=x59) (j:=1) ha rfl rfl rfl fun a ha=>?_);refine lin rfl (aq ha rfl rfl rfl fun a ha=>?_);refine wpList_nil (aa (an (t:=120) ha rfl (fun h60 ha=>?_) (fun h60 ha=>?_)))
       ·refine ao ha rfl (wp_seq (ab (Ls rfl ha fun a ha=>?_)));refine wpList_nil (aa (wp_ret (ay (ah (ah (ay (ah (ret1 rfl ha rfl ?_))))))));have hmo_: mostS (er bs) j_=1:=by
         unfold mostS;rw [List.getD_eq_getElem?_getD,hjb_];rfl
        have hbad_: badAt (er bs) (xs_2,xs_3) j_=true:=by
         unfold badAt;simp only [hmo_,List.getD_eq_getElem?_getD,hx57,hx59,Option.getD_some];rw [h58,decide_eq_true h60];rfl
        have hS:=Step.castB [en_2,en_3,(eO ab8 22 #[(.slice (some ⟨b4,0,none⟩) bs.length bs.length)]),(eO ab10 28 #[(.slice (some ⟨b6,0,none⟩) bs.length bs.length)]),en24] hS hEm27;have hS:=hS.drop;have hS:=hS.drop;have hS:=hS.drop;have hS:=hS.drop;have hS:=hS.drop;have hq_: auditS (er bs) xs=213:=dl hall_ hnbd_ hjk_ hbad_;rw [hbs] at hq_;rw [hq_];exact⟨_,rfl,hS⟩
       ·refine ai ha rfl (wp_skip (ap (aa (ab (lin rfl (aM (i:=((ka: Nat): Int)) (j:=1) ha rfl rfl rfl (by omega) fun a ha=>?_))))));refine Lm rfl ha fun a ha=>?_;refine wpList_nil (aa (?_));have hmo_: mostS (er bs) j_=1:=by
         unfold mostS;rw [List.getD_eq_getElem?_getD,hjb_];rfl
        have hbad_: badAt (er bs) (xs_2,xs_3) j_=false:=by
         unfold badAt;simp only [hmo_,List.getD_eq_getElem?_getD,hx57,hx59,Option.getD_some];rw [h58,decide_eq_false h60];rfl
        exact⟨(BL (er bs) xs).length - (ka+1),by omega,(ka+1),rfl,ha.pk rfl,hS,(by omega),(fun i j h h2_=>by
          by_cases e_: i=ka
          ·subst e_;rw [hjk_] at h2_;obtain rfl:=Option.some.inj h2_;exact hbad_
          ·exact hno i j (by omega) h2_)⟩
      ·refine Lf rfl ha rfl rfl fun a ha=>?_;refine Lf rfl ha rfl rfl fun a ha=>?_;refine Lf rfl ha rfl rfl fun a ha=>?_;refine Lf rfl ha rfl rfl fun a ha=>?_;refine Lf rfl ha rfl rfl fun a ha=>?_;refine Lf rfl ha rfl rfl fun a ha=>?_;refine lin rfl (am ha rfl rfl rfl fun a ha=>?_);refine wpList_nil (aa (ai ha rfl (wp_skip (ap (aa (ab (lin rfl (aM (i:=((ka: Nat): Int)) (j:=1) ha rfl rfl rfl (by omega) fun a ha=>?_))))))));refine Lm rfl ha fun a ha=>?_;refine wpList_nil (aa (?_));have hmo_: mostS (er bs) j_=1:=by
        unfold mostS;rw [List.getD_eq_getElem?_getD,hjb_];rfl
       have hbad_: badAt (er bs) (xs_2,xs_3) j_=false:=by
        unfold badAt;simp only [hmo_,List.getD_eq_getElem?_getD,hx57,Option.getD_some];rw [h58];rfl
       exact⟨(BL (er bs) xs).length - (ka+1),by omega,(ka+1),rfl,ha.pk rfl,hS,(by omega),(fun i j h h2_=>by
         by_cases e_: i=ka
         ·subst e_;rw [hjk_] at h2_;obtain rfl:=Option.some.inj h2_;exact hbad_
         ·exact hno i j (by omega) h2_)⟩
     ·have hx47:=hx46;obtain rfl: bk_=(q47,PB.vec ws47):=Option.some.inj (Option.some.inj (hbj_.symm.trans hx47));refine lin rfl (aP T92 ha rfl rfl rfl fun a ha=>?_);refine Lm rfl ha fun a ha=>?_;refine lin rfl (ad (v:=(.pointer none)) ha rfl rfl rfl fun a ha=>?_);refine lin rfl (ad (v:=(.bool false)) ha rfl rfl rfl fun a ha=>?_);refine Ls rfl ha fun a ha=>?_;refine Ls rfl ha fun a ha=>?_;refine wpList_nil (aa (wp_seq (ab (Lm rfl ha fun a ha=>?_))));refine Lm rfl ha fun a ha=>?_;refine Lf rfl ha rfl rfl fun a ha=>?_;refine Lf rfl ha rfl rfl fun a ha=>?_;refine Lf rfl ha rfl rfl fun a ha=>?_;refine Lf rfl ha rfl rfl fun a ha=>?_;refine Lf rfl ha rfl rfl fun a ha=>?_;refine Lf rfl ha rfl rfl fun a ha=>?_;refine lin rfl (am ha rfl rfl rfl fun a ha=>?_);refine wpList_nil (aa (ai ha rfl (wp_skip (aa (wp_seq (ab (lin rfl (af (v:=(.slice (some ⟨b6,0,none⟩) bs.length bs.length)) T28 rfl ha rfl (hS.blkL 3 rfl) rfl rfl fun a ha=>?_))))))));refine Lm rfl ha fun a ha=>?_;obtain⟨b61,cap61,cur61,hv61,he61,hc61, -⟩:=hR_3.at_ (j:=j_) (by omega);have hA61:((some ⟨b6,0,none⟩): Option Addr)=some ⟨b61,0,none⟩:=by injection hv61
      obtain⟨x61,hx61⟩: ∃ x,xs_3[j_]? =some x:=⟨_,List.getElem?_eq_getElem (by first | omega |(simp;omega))⟩;have hc61:=hc61 0 (.bool x61) (by omega) (cg hx61);refine lin rfl (aD (b:=b61) (o:=0) (j:=j_) T28.und T4 hA61 ha rfl rfl (by omega) (by omega) rfl fun a ha=>?_);refine lin rfl (af (v:=(.bool x61)) T4 rfl ha rfl (hS.blkL 1 (b:=b61) (o:=.cells cur61 4 (0,0)) (by rw [← he61];rfl)) hc61 rfl fun a ha=>?_);refine Lm rfl ha fun a ha=>?_;refine ar (t:=113) ha rfl (fun h62 ha=>?_) (fun h62 ha=>?_)
      ·refine ae rfl ha rfl rfl rfl (af (v:=(.slice (some ⟨b4,0,none⟩) bs.length bs.length)) T22 rfl ha rfl (hS.blkL 2 rfl) rfl rfl fun a ha=>?_);refine ae rfl ha rfl rfl rfl (ak ha rfl rfl fun a ha=>?_);obtain⟨b63,cap63,cur63,hv63,he63,hc63, -⟩:=hR_2.at_ (j:=j_) (by omega);have hA63:((some ⟨b4,0,none⟩): Option Addr)=some ⟨b63,0,none⟩:=by injection hv63
       obtain⟨x63,hx63⟩: ∃ x,xs_2[j_]? =some x:=⟨_,List.getElem?_eq_getElem (by first | omega |(simp;omega))⟩;have hc63:=hc63 0 (iV x63) (by omega) (ci hx63);refine ae rfl ha rfl rfl rfl (aD (b:=b63) (o:=0) (j:=j_) T22.und T3 hA63 ha rfl rfl (by omega) (by omega) rfl fun a ha=>?_);refine ae rfl ha rfl rfl rfl (af (v:=(iV x63)) T3 rfl ha rfl (hS.blkL 0 (b:=b63) (o:=.cells cur63 3 (0,0)) (by rw [← he63];rfl)) hc63 rfl fun a ha=>?_);refine ae rfl ha rfl rfl rfl (ak ha rfl rfl fun a ha=>?_);refine ae rfl ha rfl rfl rfl (cK (i:=x63) (j:=1) ha rfl rfl rfl fun a ha=>?_);refine lin rfl (aq ha rfl rfl rfl fun a ha=>?_);refine wpList_nil (aa (an (t:=120) ha rfl (fun h64 ha=>?_) (fun h64 ha=>?_)))
       ·refine ao ha rfl (wp_seq (ab (Ls rfl ha fun a ha=>?_)));refine wpList_nil (aa (wp_ret (ay (ah (ah (ay (ah (ret1 rfl ha rfl ?_))))))));have hmo_: mostS (er bs) j_=1:=by
         unfold mostS;rw [List.getD_eq_getElem?_getD,hjb_];rfl
        have hbad_: badAt (er bs) (xs_2,xs_3) j_=true:=by
         unfold badAt;simp only [hmo_,List.getD_eq_getElem?_getD,hx61,hx63,Option.getD_some];rw [h62,decide_eq_true h64];rfl
        have hS:=Step.castB [en_2,en_3,(eO ab8 22 #[(.slice (some ⟨b4,0,none⟩) bs.length bs.length)]),(eO ab10 28 #[(.slice (some ⟨b6,0,none⟩) bs.length bs.length)]),en24] hS hEm27;have hS:=hS.drop;have hS:=hS.drop;have hS:=hS.drop;have hS:=hS.drop;have hS:=hS.drop;have hq_: auditS (er bs) xs=213:=dl hall_ hnbd_ hjk_ hbad_;rw [hbs] at hq_;rw [hq_];exact⟨_,rfl,hS⟩
       ·refine ai ha rfl (wp_skip (ap (aa (ab (lin rfl (aM (i:=((ka: Nat): Int)) (j:=1) ha rfl rfl rfl (by omega) fun a ha=>?_))))));refine Lm rfl ha fun a ha=>?_;refine wpList_nil (aa (?_));have hmo_: mostS (er bs) j_=1:=by
         unfold mostS;rw [List.getD_eq_getElem?_getD,hjb_];rfl
        have hbad_: badAt (er bs) (xs_2,xs_3) j_=false:=by
         unfold badAt;simp only [hmo_,List.getD_eq_getElem?_getD,hx61,hx63,Option.getD_some];rw [h62,decide_eq_false h64];rfl
        exact⟨(BL (er bs) xs).length - (ka+1),by omega,(ka+1),rfl,ha.pk rfl,hS,(by omega),(fun i j h h2_=>by
          by_cases e_: i=ka
          ·subst e_;rw [hjk_] at h2_;obtain rfl:=Option.some.inj h2_;exact hbad_
          ·exact hno i j (by omega) h2_)⟩
      ·refine Lf rfl ha rfl rfl fun a ha=>?_;refine Lf rfl ha rfl rfl fun a ha=>?_;refine Lf rfl ha rfl rfl fun a ha=>?_;refine Lf rfl ha rfl rfl fun a ha=>?_;refine Lf rfl ha rfl rfl fun a ha=>?_;refine Lf rfl ha rfl rfl fun a ha=>?_;refine lin rfl (am ha rfl rfl rfl fun a ha=>?_);refine wpList_nil (aa (ai ha rfl (wp_skip (ap (aa (ab (lin rfl (aM (i:=((ka: Nat): Int)) (j:=1) ha rfl rfl rfl (by omega) fun a ha=>?_))))))));refine Lm rfl ha fun a ha=>?_;refine wpList_nil (aa (?_));have hmo_: mostS (er bs) j_=1:=by
        unfold mostS;rw [List.getD_eq_getElem?_getD,hjb_];rfl
       have hbad_: badAt (er bs) (xs_2,xs_3) j_=false:=by
        unfold badAt;simp only [hmo_,List.getD_eq_getElem?_getD,hx61,Option.getD_some];rw [h62];rfl
       exact⟨(BL (er bs) xs).length - (ka+1),by omega,(ka+1),rfl,ha.pk rfl,hS,(by omega),(fun i j h h2_=>by
         by_cases e_: i=ka
         ·subst e_;rw [hjk_] at h2_;obtain rfl:=Option.some.inj h2_;exact hbad_
         ·exact hno i j (by omega) h2_)⟩
    ·have hbl_:(blocksS (er bs) xs).length=(BL (er bs) xs).length:=by unfold BL;rw [List.length_map]
     have hnbd_: noteB (er bs) (c0S (er bs) xs) (blocksS (er bs) xs)=some (xs_2,xs_3):=by rw [← hnb,List.drop_of_length_le (by omega)];rfl
     refine ai ha rfl (wp_exit (aA (aA (aV (aa (wp_seq (ab (Ls rfl ha fun a ha=>?_))))))));refine wpList_nil (aa (wp_ret (ret1 rfl ha rfl ?_)));have hS:=Step.castB [en_2,en_3,(eO ab8 22 #[(.slice (some ⟨b4,0,none⟩) bs.length bs.length)]),(eO ab10 28 #[(.slice (some ⟨b6,0,none⟩) bs.length bs.length)]),en24] hS hEm27;have hS:=hS.drop;have hS:=hS.drop;have hS:=hS.drop;have hS:=hS.drop;have hS:=hS.drop;have hq_: auditS (er bs) xs=0:=audit_ok hall_ hnbd_ fun i j h_=>hno i j (by have h2_:=(List.getElem?_eq_some_iff.1 h_).1;omega) h_;rw [hbs] at hq_;rw [hq_];exact⟨_,rfl,hS⟩
end Go.Vk.Try
namespace Go.Vk.Try
open Go.RowKit
theorem newR_ok {w w': World} {H: PHeap} {n: Int} {e: Ending} (h: NewR w H n e w') (hn: 16≤n∧n≤65536): ∃ p L',e=.returned (.tuple #[.pointer (some ⟨p,0,none⟩),.int .i64 0])∧HK p (HS.new n.toNat) L'∧Step w H [] w' H L':=by
 rcases h with ⟨_,_,h⟩ |⟨h,_⟩
 ·exact h
 ·exact absurd hn h
abbrev s0: HS:=(HS.new (Int.toNat 16))
theorem oks0: s0.Ok:=HS.Ok.new (by decide)
abbrev s1: HS:=(s0.fun_ (⟨#[102]⟩) ([(Wd.mk 1 1 (⟨#[]⟩) false),(Wd.mk 2 0 (⟨#[97]⟩) false)]: List Wd)).1
theorem oks1: s1.Ok:=HS.Ok.fun_ oks0 _ _
abbrev s2: HS:=(HS.var s1).1
theorem oks2: s2.Ok:=HS.Ok.var oks1
abbrev s3: HS:=(s2.vec ([(Wd.mk 4 3 ⟨#[]⟩ true)]: List Wd)).1
theorem oks3: s3.Ok:=HS.Ok.vec oks2 _
abbrev s4: HS:=(s3.hook (Wd.mk 4 3 ⟨#[]⟩ true) 7).1
theorem oks4: s4.Ok:=HS.Ok.hook oks3 _ _
abbrev s5: HS:=(s4.bind (Wd.mk 4 3 ⟨#[]⟩ true) (Wd.mk 5 0 ⟨#[]⟩ true)).1
theorem oks5: s5.Ok:=HS.Ok.bind oks4 _ _
abbrev s6: HS:=(s5.free (Wd.mk 5 0 ⟨#[]⟩ true)).1
theorem oks6: s6.Ok:=HS.Ok.free oks5 _
abbrev s7: HS:=(s6.fun_ (⟨#[103]⟩) ([(Wd.mk 1 2 (⟨#[]⟩) false)]: List Wd)).1
set_option maxHeartbeats 40000000 in
theorem c_sane {w0: World} {H: PHeap} (hI: Inv w0 H []): Calls prog 9 #[] w0 (fun e w'=> ∃ H',e=.returned (.bool true)∧Step w0 H [] w' H' []):=by
 have hS:=Step.refl hI;refine enter [] func9 rfl ntmps9 rfl fun a ha=>?_;refine wp_seq (ab (Ls rfl ha fun a ha=>?_));refine wpList_nil (aa (wp_seq (ab ?_)));have hk2:=c_hNew (n:=16) hS.inv.nil;refine lin rfl (aC func10 rfl rfl (ha.evs rfl) ha rfl (hk2) ?_);rintro e w hN_;obtain⟨p1,L1,rfl,hK1,hc1⟩:=newR_ok hN_ (by omega);refine⟨_,rfl,fun a ha=>?_⟩;have hS:=(Step.frame (Lc:= []) (R:= []) hS hc1).perm List.perm_append_comm;have hK: HK p1 s0 L1:=hK1;refine Lm rfl ha fun a ha=>?_;refine lin rfl (ad (v:=(pB p1)) ha rfl rfl rfl fun a ha=>?_);refine lin rfl (ad (v:=(iV 0)) ha rfl rfl rfl fun a ha=>?_);refine Ls rfl ha fun a ha=>?_;refine Ls rfl ha fun a ha=>?_;refine wpList_nil (aa (wp_seq (wp_seq (ab (Lm rfl ha fun a ha=>?_)))));refine lin rfl (bG (i:=0) (j:=0) ha rfl rfl rfl fun a ha=>?_);refine Lm rfl ha fun a ha=>?_;refine ae rfl ha rfl rfl rfl (ak ha rfl rfl fun a ha=>?_);refine ae rfl ha rfl rfl rfl (aW T24.und T88 ha rfl rfl rfl fun a ha=>?_);refine lin rfl (am ha rfl rfl rfl fun a ha=>?_);refine wpList_nil (aa (ai ha rfl (wp_skip (aa (wp_seq (ab (Lm rfl ha fun a ha=>?_)))))));refine lin rfl (aG (vs:= [(0,(iV 1)),(1,(iV 1))]) (cells:= [(iV 1),(iV 1),(.string (⟨#[]⟩)),(.bool false)]) T34 PL34 ha (ha.evp rfl) rfl rfl fun a ha=>?_);refine lin rfl (aG (vs:= [(0,(iV 2)),(2,(.string (⟨#[97]⟩)))]) (cells:= [(iV 2),(iV 0),(.string (⟨#[97]⟩)),(.bool false)]) T34 PL34 ha (ha.evp rfl) rfl rfl fun a ha=>?_);refine lin rfl (aY (vs:= [(0,(.agg #[(iV 1),(iV 1),(.string (⟨#[]⟩)),(.bool false)])),(1,(.agg #[(iV 2),(iV 0),(.string (⟨#[97]⟩)),(.bool false)]))]) (cells:= [(iV 1),(iV 1),(.string (⟨#[]⟩)),(.bool false),(iV 2),(iV 0),(.string (⟨#[97]⟩)),(.bool false)]) T29.und T34 hS ha (ha.evp rfl) rfl rfl rfl rfl fun b3 a w hS ha=>?_);obtain⟨H3,hS,hle3,hb3⟩:=hS.give;have hk5:=fD (hS.tail []) hK oks0 ((RdG.of_data hS.inv (RowG.of_lit Wd.len ([(Wd.mk 1 1 (⟨#[]⟩) false),(Wd.mk 2 0 (⟨#[97]⟩) false)]: List Wd) hb3 (by simp) rfl)).fewer (bz [])) (s:=⟨#[102]⟩);rw [show (s0.fun_ (⟨#[102]⟩) ([(Wd.mk 1 1 (⟨#[]⟩) false),(Wd.mk 2 0 (⟨#[97]⟩) false)]: List Wd)).2.1=(Wd.mk 5 0 ⟨#[]⟩ true) from by kernel_rfl] at hk5;rw [show (s0.fun_ (⟨#[102]⟩) ([(Wd.mk 1 1 (⟨#[]⟩) false),(Wd.mk 2 0 (⟨#[97]⟩) false)]: List Wd)).2.2=0 from by kernel_rfl] at hk5;refine lin rfl (aC func16 rfl rfl (ha.evs rfl) ha rfl (hk5) ?_);rintro e w ⟨L4,rfl,hK4,hc4⟩;refine⟨_,rfl,fun a ha=>?_⟩;have hS:=hS.frameR [] hc4;have hK: HK p1 s1 L4:=hK4;refine Lm rfl ha fun a ha=>?_;refine lin rfl (ad (v:=(.agg (wA (Wd.mk 5 0 ⟨#[]⟩ true)))) ha rfl rfl rfl fun a ha=>?_);refine lin rfl (ad (v:=(iV 0)) ha rfl rfl rfl fun a ha=>?_);refine lin rfl (aE (cs:= #[(iV 0),(iV 0),(.string (⟨#[]⟩)),(.bool false)]) T34 hS ha rfl rfl fun b6 a w hS ha=>?_);refine lin rfl (aj (cs':=(wA (Wd.mk 5 0 ⟨#[]⟩ true))) T34 hS (i:=0) rfl ha rfl rfl rfl rfl rfl rfl fun a w hS ha=>?_);refine Ls rfl ha fun a ha=>?_;refine wpList_nil (aa (wp_seq (wp_seq (ab (Lm rfl ha fun a ha=>?_)))));refine lin rfl (bG (i:=0) (j:=0) ha rfl rfl rfl fun a ha=>?_);refine Lm rfl ha fun a ha=>?_;refine ae rfl ha rfl rfl rfl (al (vs:=(wL (Wd.mk 5 0 ⟨#[]⟩ true))) T34 rfl ha rfl (hS.blkL 0 rfl) rfl (ag rfl) rfl fun a ha=>?_);refine ae rfl ha rfl rfl rfl (aG (vs:= [(0,(iV 5)),(3,(.bool true))]) (cells:= [(iV 5),(iV 0),(.string (⟨#[]⟩)),(.bool true)]) T34 PL34 ha (ha.evp rfl) rfl rfl fun a ha=>?_);refine ae rfl ha rfl rfl rfl (eU (x1:=(Wd.mk 5 0 ⟨#[]⟩ true)) (y1:=(Wd.mk 5 0 (⟨#[]⟩) true)) ha rfl rfl rfl fun a ha=>?_);rw [show (!decide ((Wd.mk 5 0 ⟨#[]⟩ true)=(Wd.mk 5 0 (⟨#[]⟩) true)))=false from by simp] at ha;refine lin rfl (am ha rfl rfl rfl fun a ha=>?_);refine Lm rfl ha fun a ha=>?_;refine ae rfl ha rfl rfl rfl (ak ha rfl rfl fun a ha=>?_);have hk9:=fE (hS.tail [(eO b6 34 (wA (Wd.mk 5 0 ⟨#[]⟩ true)))]) hK;rw [show (HS.u s1)=3 from by kernel_rfl] at hk9;refine ae rfl ha rfl rfl rfl (aC func17 rfl rfl (ha.evs rfl) ha rfl (hk9) ?_);rintro e w ⟨rfl,hc8⟩;refine⟨_,rfl,fun a ha=>?_⟩;have hS:=hS.frameR [(eO b6 34 (wA (Wd.mk 5 0 ⟨#[]⟩ true)))] hc8;refine ae rfl ha rfl rfl rfl (bG (i:=3) (j:=3) ha rfl rfl rfl fun a ha=>?_);refine lin rfl (am ha rfl rfl rfl fun a ha=>?_);refine wpList_nil (aa (ai ha rfl (wp_skip (aa (wp_seq (ab (Lm rfl ha fun a ha=>?_)))))));have hk11:=c_hVar (hS.tail [(eO b6 34 (wA (Wd.mk 5 0 ⟨#[]⟩ true)))]) hK oks1;rw [show (HS.var s1).2.1=(Wd.mk 4 3 ⟨#[]⟩ true) from by kernel_rfl] at hk11;rw [show (HS.var s1).2.2=0 from by kernel_rfl] at hk11;refine lin rfl (aC func27 rfl rfl (ha.evs rfl) ha rfl (hk11) ?_);rintro e w ⟨L10,rfl,hK10,hc10⟩;refine⟨_,rfl,fun a ha=>?_⟩;have hS:=hS.frameR [(eO b6 34 (wA (Wd.mk 5 0 ⟨#[]⟩ true)))] hc10;have hK: HK p1 s2 L10:=hK10;refine Lm rfl ha fun a ha=>?_;refine lin rfl (ad (v:=(.agg (wA (Wd.mk 4 3 ⟨#[]⟩ true)))) ha rfl rfl rfl fun a ha=>?_);refine lin rfl (ad (v:=(iV 0)) ha rfl rfl rfl fun a ha=>?_);refine lin rfl (aE (cs:= #[(iV 0),(iV 0),(.string (⟨#[]⟩)),(.bool false)]) T34 hS ha rfl rfl fun b12 a w hS ha=>?_);refine lin rfl (aj (cs':=(wA (Wd.mk 4 3 ⟨#[]⟩ true))) T34 hS (i:=0) rfl ha rfl rfl rfl rfl rfl rfl fun a w hS ha=>?_);refine Ls rfl ha fun a ha=>?_;refine wpList_nil (aa (wp_seq (ab (Lm rfl ha fun a ha=>?_))));refine lin rfl (al (vs:=(wL (Wd.mk 4 3 ⟨#[]⟩ true))) T34 rfl ha rfl (hS.blkL 0 rfl) rfl (ag rfl) rfl fun a ha=>?_);refine lin rfl (aY (vs:= [(0,(.agg (wA (Wd.mk 4 3 ⟨#[]⟩ true))))]) (cells:=(wL (Wd.mk 4 3 ⟨#[]⟩ true))) T29.und T34 hS ha (ha.evp rfl) rfl rfl rfl rfl fun b14 a w hS ha=>?_);obtain⟨H14,hS,hle14,hb14⟩:=hS.give;have hk16:=c_hVec (hS.tail [(eO b12 34 (wA (Wd.mk 4 3 ⟨#[]⟩ true))),(eO b6 34 (wA (Wd.mk 5 0 ⟨#[]⟩ true)))]) hK oks2 ((RdG.of_data hS.inv (RowG.of_lit Wd.len ([(Wd.mk 4 3 ⟨#[]⟩ true)]: List Wd) hb14 (by simp) rfl)).fewer (bz [(eO b12 34 (wA (Wd.mk 4 3 ⟨#[]⟩ true))),(eO b6 34 (wA (Wd.mk 5 0 ⟨#[]⟩ true)))]));rw [show (s2.vec ([(Wd.mk 4 3 ⟨#[]⟩ true)]: List Wd)).2.1=(Wd.mk 6 4 ⟨#[]⟩ true) from by kernel_rfl] at hk16;rw [show (s2.vec ([(Wd.mk 4 3 ⟨#[]⟩ true)]: List Wd)).2.2=0 from by kernel_rfl] at hk16;refine lin rfl (aC func19 rfl rfl (ha.evs rfl) ha rfl (hk16) ?_);rintro e w ⟨L15,rfl,hK15,hc15⟩;refine⟨_,rfl,fun a ha=>?_⟩;have hS:=hS.frameR [(eO b12 34 (wA (Wd.mk 4 3 ⟨#[]⟩ true))),(eO b6 34 (wA (Wd.mk 5 0 ⟨#[]⟩ true)))] hc15;have hK: HK p1 s3 L15:=hK15;refine Lm rfl ha fun a ha=>?_;refine lin rfl (ad (v:=(.agg (wA (Wd.mk 6 4 ⟨#[]⟩ true)))) ha rfl rfl rfl fun a ha=>?_);refine lin rfl (ad (v:=(iV 0)) ha rfl rfl rfl fun a ha=>?_);refine lin rfl (aE (cs:= #[(iV 0),(iV 0),(.string (⟨#[]⟩)),(.bool false)]) T34 hS ha rfl rfl fun b17 a w hS ha=>?_);refine lin rfl (aj (cs':=(wA (Wd.mk 6 4 ⟨#[]⟩ true))) T34 hS (i:=0) rfl ha rfl rfl rfl rfl rfl rfl fun a w hS ha=>?_);refine Ls rfl ha fun a ha=>?_;refine wpList_nil (aa (wp_seq (wp_seq (ab (Lm rfl ha fun a ha=>?_)))));refine lin rfl (bG (i:=0) (j:=0) ha rfl rfl rfl fun a ha=>?_);refine Lm rfl ha fun a ha=>?_;refine ae rfl ha rfl rfl rfl (ak ha rfl rfl fun a ha=>?_);refine ae rfl ha rfl rfl rfl (bG (i:=0) (j:=0) ha rfl rfl rfl fun a ha=>?_);refine lin rfl (am ha rfl rfl rfl fun a ha=>?_);refine Lm rfl ha fun a ha=>?_;refine ae rfl ha rfl rfl rfl (al (vs:=(wL (Wd.mk 4 3 ⟨#[]⟩ true))) T34 rfl ha rfl (hS.blkL 1 rfl) rfl (ag rfl) rfl fun a ha=>?_);refine ae rfl ha rfl rfl rfl (aG (vs:= [(0,(iV 4)),(1,(iV 3)),(3,(.bool true))]) (cells:= [(iV 4),(iV 3),(.string (⟨#[]⟩)),(.bool true)]) T34 PL34 ha (ha.evp rfl) rfl rfl fun a ha=>?_);refine ae rfl ha rfl rfl rfl (eU (x1:=(Wd.mk 4 3 ⟨#[]⟩ true)) (y1:=(Wd.mk 4 3 (⟨#[]⟩) true)) ha rfl rfl rfl fun a ha=>?_);rw [show (!decide ((Wd.mk 4 3 ⟨#[]⟩ true)=(Wd.mk 4 3 (⟨#[]⟩) true)))=false from by simp] at ha;refine lin rfl (am ha rfl rfl rfl fun a ha=>?_);refine Lm rfl ha fun a ha=>?_;refine ae rfl ha rfl rfl rfl (al (vs:=(wL (Wd.mk 6 4 ⟨#[]⟩ true))) T34 rfl ha rfl (hS.blkL 0 rfl) rfl (ag rfl) rfl fun a ha=>?_);refine ae rfl ha rfl rfl rfl (aG (vs:= [(0,(iV 6)),(1,(iV 4)),(3,(.bool true))]) (cells:= [(iV 6),(iV 4),(.string (⟨#[]⟩)),(.bool true)]) T34 PL34 ha (ha.evp rfl) rfl rfl fun a ha=>?_);refine ae rfl ha rfl rfl rfl (eU (x1:=(Wd.mk 6 4 ⟨#[]⟩ true)) (y1:=(Wd.mk 6 4 (⟨#[]⟩) true)) ha rfl rfl rfl fun a ha=>?_);rw [show (!decide ((Wd.mk 6 4 ⟨#[]⟩ true)=(Wd.mk 6 4 (⟨#[]⟩) true)))=false from by simp] at ha;refine lin rfl (am ha rfl rfl rfl fun a ha=>?_);refine Lm rfl ha fun a ha=>?_;refine ae rfl ha rfl rfl rfl (ak ha rfl rfl fun a ha=>?_);have hk20:=fE (hS.tail [(eO b17 34 (wA (Wd.mk 6 4 ⟨#[]⟩ true))),(eO b12 34 (wA (Wd.mk 4 3 ⟨#[]⟩ true))),(eO b6 34 (wA (Wd.mk 5 0 ⟨#[]⟩ true)))]) hK;rw [show (HS.u s3)=6 from by kernel_rfl] at hk20;refine ae rfl ha rfl rfl rfl (aC func17 rfl rfl (ha.evs rfl) ha rfl (hk20) ?_);rintro e w ⟨rfl,hc19⟩;refine⟨_,rfl,fun a ha=>?_⟩;have hS:=hS.frameR [(eO b17 34 (wA (Wd.mk 6 4 ⟨#[]⟩ true))),(eO b12 34 (wA (Wd.mk 4 3 ⟨#[]⟩ true))),(eO b6 34 (wA (Wd.mk 5 0 ⟨#[]⟩ true)))] hc19;refine ae rfl ha rfl rfl rfl (bG (i:=6) (j:=6) ha rfl rfl rfl fun a ha=>?_);refine lin rfl (am ha rfl rfl rfl fun a ha=>?_);refine wpList_nil (aa (ai ha rfl (wp_skip (aa (wp_seq (ab (Lm rfl ha fun a ha=>?_)))))));refine lin rfl (al (vs:=(wL (Wd.mk 6 4 ⟨#[]⟩ true))) T34 rfl ha rfl (hS.blkL 0 rfl) rfl (ag rfl) rfl fun a ha=>?_);have hk22:=fH (hS.tail [(eO b17 34 (wA (Wd.mk 6 4 ⟨#[]⟩ true))),(eO b12 34 (wA (Wd.mk 4 3 ⟨#[]⟩ true))),(eO b6 34 (wA (Wd.mk 5 0 ⟨#[]⟩ true)))]) hK (x:=(Wd.mk 6 4 ⟨#[]⟩ true));rw [show (readS (HS.S s3) (Wd.mk 6 4 ⟨#[]⟩ true)).1=(Tm.mk 6 0 ⟨#[]⟩ [Tm.mk 1 3 ⟨#[]⟩ []]) from by kernel_rfl] at hk22;rw [show (readS (HS.S s3) (Wd.mk 6 4 ⟨#[]⟩ true)).2=0 from by kernel_rfl] at hk22;refine lin rfl (aC func20 rfl rfl (ha.evs rfl) ha rfl (hk22) ?_);rintro e w ⟨H21,A21,c21,rfl,hr21,hc21⟩;refine⟨_,rfl,fun a ha=>?_⟩;have hS:=hS.frameR [(eO b17 34 (wA (Wd.mk 6 4 ⟨#[]⟩ true))),(eO b12 34 (wA (Wd.mk 4 3 ⟨#[]⟩ true))),(eO b6 34 (wA (Wd.mk 5 0 ⟨#[]⟩ true)))] hc21;refine Lm rfl ha fun a ha=>?_;refine lin rfl (ad (v:=(tv ((Tm.mk 6 0 ⟨#[]⟩ [Tm.mk 1 3 ⟨#[]⟩ []])) A21 c21)) ha rfl rfl rfl fun a ha=>?_);refine lin rfl (ad (v:=(iV 0)) ha rfl rfl rfl fun a ha=>?_);refine lin rfl (aE (cs:=aZ) T46 hS ha rfl rfl fun b23 a w hS ha=>?_);refine lin rfl (aj (cs':=(tA ((Tm.mk 6 0 ⟨#[]⟩ [Tm.mk 1 3 ⟨#[]⟩ []])) A21 c21)) T46 hS (i:=0) rfl ha rfl rfl rfl rfl rfl rfl fun a w hS ha=>?_);refine Ls rfl ha fun a ha=>?_;refine wpList_nil (aa (wp_seq (wp_seq (ab (Lm rfl ha fun a ha=>?_)))));refine lin rfl (bG (i:=0) (j:=0) ha rfl rfl rfl fun a ha=>?_);refine Lm rfl ha fun a ha=>?_;refine ae rfl ha rfl rfl rfl (al (vs:=(tL ((Tm.mk 6 0 ⟨#[]⟩ [Tm.mk 1 3 ⟨#[]⟩ []])) A21 c21)) T46 rfl ha rfl (hS.blkL 0 rfl) rfl (ag rfl) rfl fun a ha=>?_);refine ae rfl ha rfl rfl rfl (aG (vs:= [(0,(iV 1)),(1,(iV 3))]) (cells:= [(iV 1),(iV 3),(.string (⟨#[]⟩)),(.slice none 0 0)]) T46 PL46 ha (ha.evp rfl) rfl rfl fun a ha=>?_);refine ae rfl ha rfl rfl rfl (aY (vs:= [(0,(.agg #[(iV 1),(iV 3),(.string (⟨#[]⟩)),(.slice none 0 0)]))]) (cells:= [(iV 1),(iV 3),(.string (⟨#[]⟩)),(.slice none 0 0)]) T44.und T46 hS ha (ha.evp rfl) rfl rfl rfl rfl fun b25 a w hS ha=>?_);obtain⟨H25,hS,hle25,hb25⟩:=hS.give;have hr21:=hr21.mono hle25;have hr25: RowT H25 (some ⟨b25,0,none⟩) 1 [(Tm.mk 1 3 (⟨#[]⟩) [])]:=RowT.of_lit ([⟨(Tm.mk 1 3 (⟨#[]⟩) []),none,0⟩]: List TV) hb25 (AllR.cons (RowT.nil _) (AllR.nil _)) (by simp) rfl;refine ae rfl ha rfl rfl rfl (aG (vs:= [(0,(iV 6)),(3,(.slice (some ⟨b25,0,none⟩) 1 1))]) (cells:= [(iV 6),(iV 0),(.string (⟨#[]⟩)),(.slice (some ⟨b25,0,none⟩) 1 1)]) T46 PL46 ha (ha.evp rfl) rfl rfl fun a ha=>?_);have hk26:=c_Same (Tm.mk 6 0 ⟨#[]⟩ [Tm.mk 1 3 ⟨#[]⟩ []]) (Tm.mk 6 0 (⟨#[]⟩) ([(Tm.mk 1 3 (⟨#[]⟩) [])])) _ _ _ _ _ _ hr21 hr25 hS.inv.nil;rw [show eqT (Tm.mk 6 0 ⟨#[]⟩ [Tm.mk 1 3 ⟨#[]⟩ []]) (Tm.mk 6 0 (⟨#[]⟩) ([(Tm.mk 1 3 (⟨#[]⟩) [])]))=true from by kernel_rfl] at hk26;refine ae rfl ha rfl rfl rfl (aC func44 rfl rfl (ha.evs rfl) ha rfl (hk26) ?_);rintro e w ⟨rfl,hc⟩;refine⟨_,rfl,fun a ha=>?_⟩;have hS:=hS.call hc;refine ae rfl ha rfl rfl rfl (aT ha rfl rfl fun a ha=>?_);refine lin rfl (am ha rfl rfl rfl fun a ha=>?_);refine Lm rfl ha fun a ha=>?_;refine ae rfl ha rfl rfl rfl (ak ha rfl rfl fun a ha=>?_);refine ae rfl ha rfl rfl rfl (al (vs:=(wL (Wd.mk 4 3 ⟨#[]⟩ true))) T34 rfl ha rfl (hS.blkL 2 rfl) rfl (ag rfl) rfl fun a ha=>?_);have hk28:=c_Hook (hS.tail [(eO b23 46 (tA ((Tm.mk 6 0 ⟨#[]⟩ [Tm.mk 1 3 ⟨#[]⟩ []])) A21 c21)),(eO b17 34 (wA (Wd.mk 6 4 ⟨#[]⟩ true))),(eO b12 34 (wA (Wd.mk 4 3 ⟨#[]⟩ true))),(eO b6 34 (wA (Wd.mk 5 0 ⟨#[]⟩ true)))]) hK oks3 (v:=(Wd.mk 4 3 ⟨#[]⟩ true)) (g:=7);rw [show (s3.hook (Wd.mk 4 3 ⟨#[]⟩ true) 7).2=0 from by kernel_rfl] at hk28;refine ae rfl ha rfl rfl rfl (aC func45 rfl rfl (ha.evs rfl) ha rfl (hk28) ?_);rintro e w ⟨L27,rfl,hK27,hc27⟩;refine⟨_,rfl,fun a ha=>?_⟩;have hS:=hS.frameR [(eO b23 46 (tA ((Tm.mk 6 0 ⟨#[]⟩ [Tm.mk 1 3 ⟨#[]⟩ []])) A21 c21)),(eO b17 34 (wA (Wd.mk 6 4 ⟨#[]⟩ true))),(eO b12 34 (wA (Wd.mk 4 3 ⟨#[]⟩ true))),(eO b6 34 (wA (Wd.mk 5 0 ⟨#[]⟩ true)))] hc27;have hK: HK p1 s4 L27:=hK27;refine ae rfl ha rfl rfl rfl (bG (i:=0) (j:=0) ha rfl rfl rfl fun a ha=>?_);refine lin rfl (am ha rfl rfl rfl fun a ha=>?_);refine wpList_nil (aa (ai ha rfl (wp_skip (aa (wp_seq (ab (Lm rfl ha fun a ha=>?_)))))));refine lin rfl (al (vs:=(wL (Wd.mk 4 3 ⟨#[]⟩ true))) T34 rfl ha rfl (hS.blkL 2 rfl) rfl (ag rfl) rfl fun a ha=>?_);refine lin rfl (al (vs:=(wL (Wd.mk 5 0 ⟨#[]⟩ true))) T34 rfl ha rfl (hS.blkL 3 rfl) rfl (ag rfl) rfl fun a ha=>?_);have hk30:=c_Bind (hS.tail [(eO b23 46 (tA ((Tm.mk 6 0 ⟨#[]⟩ [Tm.mk 1 3 ⟨#[]⟩ []])) A21 c21)),(eO b17 34 (wA (Wd.mk 6 4 ⟨#[]⟩ true))),(eO b12 34 (wA (Wd.mk 4 3 ⟨#[]⟩ true))),(eO b6 34 (wA (Wd.mk 5 0 ⟨#[]⟩ true)))]) hK oks4 (v:=(Wd.mk 4 3 ⟨#[]⟩ true)) (x:=(Wd.mk 5 0 ⟨#[]⟩ true));rw [show ((s4.bind (Wd.mk 4 3 ⟨#[]⟩ true) (Wd.mk 5 0 ⟨#[]⟩ true)).2.1)=([7]: List Int) from by kernel_rfl] at hk30;rw [show (s4.bind (Wd.mk 4 3 ⟨#[]⟩ true) (Wd.mk 5 0 ⟨#[]⟩ true)).2.2=0 from by kernel_rfl] at hk30;rw [show ([7]: List Int).length=1 from by kernel_rfl] at hk30;refine lin rfl (aC func39 rfl rfl (ha.evs rfl) ha rfl (hk30) ?_);rintro e w ⟨L29,A29,c29,en29,rfl,hR29,hK29,hc29⟩;refine⟨_,rfl,fun a ha=>?_⟩;have hS:=hS.frameR [(eO b23 46 (tA ((Tm.mk 6 0 ⟨#[]⟩ [Tm.mk 1 3 ⟨#[]⟩ []])) A21 c21)),(eO b17 34 (wA (Wd.mk 6 4 ⟨#[]⟩ true))),(eO b12 34 (wA (Wd.mk 4 3 ⟨#[]⟩ true))),(eO b6 34 (wA (Wd.mk 5 0 ⟨#[]⟩ true)))] hc29;have hK: HK p1 s5 L29:=hK29;refine Lm rfl ha fun a ha=>?_;refine lin rfl (ad (v:=(.slice A29 1 c29)) ha rfl rfl rfl fun a ha=>?_);refine lin rfl (ad (v:=(iV 0)) ha rfl rfl rfl fun a ha=>?_);refine Ls rfl ha fun a ha=>?_;refine Ls rfl ha fun a ha=>?_;refine wpList_nil (aa (wp_seq (ab (Lm rfl ha fun a ha=>?_))));refine lin rfl (al (vs:=(wL (Wd.mk 4 3 ⟨#[]⟩ true))) T34 rfl ha rfl (hS.blkL 2 rfl) rfl (ag rfl) rfl fun a ha=>?_);have hk32:=c_Deref (hS.tail [(eO b23 46 (tA ((Tm.mk 6 0 ⟨#[]⟩ [Tm.mk 1 3 ⟨#[]⟩ []])) A21 c21)),(eO b17 34 (wA (Wd.mk 6 4 ⟨#[]⟩ true))),(eO b12 34 (wA (Wd.mk 4 3 ⟨#[]⟩ true))),(eO b6 34 (wA (Wd.mk 5 0 ⟨#[]⟩ true))),en29]) hK (x:=(Wd.mk 4 3 ⟨#[]⟩ true));rw [show (valueS (HS.S s5) (Wd.mk 4 3 ⟨#[]⟩ true)).1=(Wd.mk 5 0 ⟨#[]⟩ true) from by kernel_rfl] at hk32;rw [show (valueS (HS.S s5) (Wd.mk 4 3 ⟨#[]⟩ true)).2=0 from by kernel_rfl] at hk32;refine lin rfl (aC func40 rfl rfl (ha.evs rfl) ha rfl (hk32) ?_);rintro e w ⟨rfl,hc31⟩;refine⟨_,rfl,fun a ha=>?_⟩;have hS:=hS.frameR [(eO b23 46 (tA ((Tm.mk 6 0 ⟨#[]⟩ [Tm.mk 1 3 ⟨#[]⟩ []])) A21 c21)),(eO b17 34 (wA (Wd.mk 6 4 ⟨#[]⟩ true))),(eO b12 34 (wA (Wd.mk 4 3 ⟨#[]⟩ true))),(eO b6 34 (wA (Wd.mk 5 0 ⟨#[]⟩ true))),en29] hc31;refine Lm rfl ha fun a ha=>?_;refine lin rfl (ad (v:=(.agg (wA (Wd.mk 5 0 ⟨#[]⟩ true)))) ha rfl rfl rfl fun a ha=>?_);refine lin rfl (ad (v:=(iV 0)) ha rfl rfl rfl fun a ha=>?_);refine lin rfl (aE (cs:= #[(iV 0),(iV 0),(.string (⟨#[]⟩)),(.bool false)]) T34 hS ha rfl rfl fun b33 a w hS ha=>?_);refine lin rfl (aj (cs':=(wA (Wd.mk 5 0 ⟨#[]⟩ true))) T34 hS (i:=0) rfl ha rfl rfl rfl rfl rfl rfl fun a w hS ha=>?_);refine Ls rfl ha fun a ha=>?_;refine wpList_nil (aa (wp_seq (wp_seq (ab (Lm rfl ha fun a ha=>?_)))));refine lin rfl (bG (i:=0) (j:=0) ha rfl rfl rfl fun a ha=>?_);refine Lm rfl ha fun a ha=>?_;refine ae rfl ha rfl rfl rfl (ak ha rfl rfl fun a ha=>?_);refine ae rfl ha rfl rfl rfl (bG (i:=0) (j:=0) ha rfl rfl rfl fun a ha=>?_);refine lin rfl (am ha rfl rfl rfl fun a ha=>?_);refine Lm rfl ha fun a ha=>?_;refine ae rfl ha rfl rfl rfl (ak ha rfl rfl fun a ha=>?_);refine ae rfl ha rfl rfl rfl (aY (vs:= [(0,(iV 7))]) (cells:= [(iV 7)]) T22.und T3 hS ha (ha.evp rfl) rfl rfl rfl rfl fun b35 a w hS ha=>?_);obtain⟨H35,hS,hle35,hb35⟩:=hS.give;have hr35: RowI H35 (some ⟨b35,0,none⟩) 1 [7]:=RowI.of_lit [7] hb35 (by simp) rfl;have hk36:=c_EqualI hS.inv.nil (RdI.of_row hS.inv hR29 5 rfl (by omega)) (RdI.of_data hS.inv hr35);rw [show decide (([7]: List Int)= [7])=true from by kernel_rfl] at hk36;refine ae rfl ha rfl rfl rfl (aC func43 rfl rfl (ha.evs rfl) ha rfl (hk36) ?_);rintro e w ⟨rfl,hc⟩;refine⟨_,rfl,fun a ha=>?_⟩;have hS:=hS.call hc;refine ae rfl ha rfl rfl rfl (aT ha rfl rfl fun a ha=>?_);refine lin rfl (am ha rfl rfl rfl fun a ha=>?_);refine Lm rfl ha fun a ha=>?_;refine ae rfl ha rfl rfl rfl (al (vs:=(wL (Wd.mk 5 0 ⟨#[]⟩ true))) T34 rfl ha rfl (hS.blkL 0 rfl) rfl (ag rfl) rfl fun a ha=>?_);refine ae rfl ha rfl rfl rfl (al (vs:=(wL (Wd.mk 5 0 ⟨#[]⟩ true))) T34 rfl ha rfl (hS.blkL 4 rfl) rfl (ag rfl) rfl fun a ha=>?_);refine ae rfl ha rfl rfl rfl (eU (x1:=(Wd.mk 5 0 ⟨#[]⟩ true)) (y1:=(Wd.mk 5 0 ⟨#[]⟩ true)) ha rfl rfl rfl fun a ha=>?_);rw [show (!decide ((Wd.mk 5 0 ⟨#[]⟩ true)=(Wd.mk 5 0 ⟨#[]⟩ true)))=false from by simp] at ha;refine lin rfl (am ha rfl rfl rfl fun a ha=>?_);refine Lm rfl ha fun a ha=>?_;refine ae rfl ha rfl rfl rfl (ak ha rfl rfl fun a ha=>?_);refine ae rfl ha rfl rfl rfl (al (vs:=(wL (Wd.mk 6 4 ⟨#[]⟩ true))) T34 rfl ha rfl (hS.blkL 2 rfl) rfl (ag rfl) rfl fun a ha=>?_);refine ae rfl ha rfl rfl rfl (al (vs:=(wL (Wd.mk 5 0 ⟨#[]⟩ true))) T34 rfl ha rfl (hS.blkL 4 rfl) rfl (ag rfl) rfl fun a ha=>?_);refine ae rfl ha rfl rfl rfl (aY (vs:= [(0,(.agg (wA (Wd.mk 6 4 ⟨#[]⟩ true)))),(1,(.agg (wA (Wd.mk 5 0 ⟨#[]⟩ true))))]) (cells:= [(iV (((Wd.mk 6 4 ⟨#[]⟩ true)).tag)),(iV (((Wd.mk 6 4 ⟨#[]⟩ true)).n)),(.string (((Wd.mk 6 4 ⟨#[]⟩ true)).s)),(.bool (((Wd.mk 6 4 ⟨#[]⟩ true)).one)),(iV (((Wd.mk 5 0 ⟨#[]⟩ true)).tag)),(iV (((Wd.mk 5 0 ⟨#[]⟩ true)).n)),(.string (((Wd.mk 5 0 ⟨#[]⟩ true)).s)),(.bool (((Wd.mk 5 0 ⟨#[]⟩ true)).one))]) T29.und T34 hS ha (ha.evp rfl) rfl rfl rfl rfl fun b37 a w hS ha=>?_);obtain⟨H37,hS,hle37,hb37⟩:=hS.give;have hk39:=dO (hS.tail [(eO b33 34 (wA (Wd.mk 5 0 ⟨#[]⟩ true))),(eO b23 46 (tA ((Tm.mk 6 0 ⟨#[]⟩ [Tm.mk 1 3 ⟨#[]⟩ []])) A21 c21)),(eO b17 34 (wA (Wd.mk 6 4 ⟨#[]⟩ true))),(eO b12 34 (wA (Wd.mk 4 3 ⟨#[]⟩ true))),(eO b6 34 (wA (Wd.mk 5 0 ⟨#[]⟩ true))),en29]) hK oks5 (RowG.of_lit Wd.len ([(Wd.mk 6 4 ⟨#[]⟩ true),(Wd.mk 5 0 ⟨#[]⟩ true)]: List Wd) hb37 (by simp) rfl);rw [show (auditS (HS.S s5) ([(Wd.mk 6 4 ⟨#[]⟩ true),(Wd.mk 5 0 ⟨#[]⟩ true)]: List Wd))=213 from by kernel_rfl] at hk39;refine ae rfl ha rfl rfl rfl (aC func33 rfl rfl (ha.evs rfl) ha rfl (hk39) ?_);rintro e w ⟨H38,rfl,hc38⟩;refine⟨_,rfl,fun a ha=>?_⟩;have hS:=hS.frameR [(eO b33 34 (wA (Wd.mk 5 0 ⟨#[]⟩ true))),(eO b23 46 (tA ((Tm.mk 6 0 ⟨#[]⟩ [Tm.mk 1 3 ⟨#[]⟩ []])) A21 c21)),(eO b17 34 (wA (Wd.mk 6 4 ⟨#[]⟩ true))),(eO b12 34 (wA (Wd.mk 4 3 ⟨#[]⟩ true))),(eO b6 34 (wA (Wd.mk 5 0 ⟨#[]⟩ true))),en29] hc38;refine ae rfl ha rfl rfl rfl (bG (i:=213) (j:=213) ha rfl rfl rfl fun a ha=>?_);refine lin rfl (am ha rfl rfl rfl fun a ha=>?_);refine Lm rfl ha fun a ha=>?_;refine ae rfl ha rfl rfl rfl (ak ha rfl rfl fun a ha=>?_);refine ae rfl ha rfl rfl rfl (al (vs:=(wL (Wd.mk 6 4 ⟨#[]⟩ true))) T34 rfl ha rfl (hS.blkL 2 rfl) rfl (ag rfl) rfl fun a ha=>?_);refine ae rfl ha rfl rfl rfl (aY (vs:= [(0,(.agg (wA (Wd.mk 6 4 ⟨#[]⟩ true))))]) (cells:=(wL (Wd.mk 6 4 ⟨#[]⟩ true))) T29.und T34 hS ha (ha.evp rfl) rfl rfl rfl rfl fun b40 a w hS ha=>?_);obtain⟨H40,hS,hle40,hb40⟩:=hS.give;have hk42:=dO (hS.tail [(eO b33 34 (wA (Wd.mk 5 0 ⟨#[]⟩ true))),(eO b23 46 (tA ((Tm.mk 6 0 ⟨#[]⟩ [Tm.mk 1 3 ⟨#[]⟩ []])) A21 c21)),(eO b17 34 (wA (Wd.mk 6 4 ⟨#[]⟩ true))),(eO b12 34 (wA (Wd.mk 4 3 ⟨#[]⟩ true))),(eO b6 34 (wA (Wd.mk 5 0 ⟨#[]⟩ true))),en29]) hK oks5 (RowG.of_lit Wd.len ([(Wd.mk 6 4 ⟨#[]⟩ true)]: List Wd) hb40 (by simp) rfl);rw [show (auditS (HS.S s5) ([(Wd.mk 6 4 ⟨#[]⟩ true)]: List Wd))=0 from by kernel_rfl] at hk42;refine ae rfl ha rfl rfl rfl (aC func33 rfl rfl (ha.evs rfl) ha rfl (hk42) ?_);rintro e w ⟨H41,rfl,hc41⟩;refine⟨_,rfl,fun a ha=>?_⟩;have hS:=hS.frameR [(eO b33 34 (wA (Wd.mk 5 0 ⟨#[]⟩ true))),(eO b23 46 (tA ((Tm.mk 6 0 ⟨#[]⟩ [Tm.mk 1 3 ⟨#[]⟩ []])) A21 c21)),(eO b17 34 (wA (Wd.mk 6 4 ⟨#[]⟩ true))),(eO b12 34 (wA (Wd.mk 4 3 ⟨#[]⟩ true))),(eO b6 34 (wA (Wd.mk 5 0 ⟨#[]⟩ true))),en29] hc41;refine ae rfl ha rfl rfl rfl (bG (i:=0) (j:=0) ha rfl rfl rfl fun a ha=>?_);refine lin rfl (am ha rfl rfl rfl fun a ha=>?_);refine wpList_nil (aa (ai ha rfl (wp_skip (aa (wp_seq (ab (Lm rfl ha fun a ha=>?_)))))));refine lin rfl (al (vs:=(wL (Wd.mk 5 0 ⟨#[]⟩ true))) T34 rfl ha rfl (hS.blkL 4 rfl) rfl (ag rfl) rfl fun a ha=>?_);have hk44:=fy (hS.tail [(eO b33 34 (wA (Wd.mk 5 0 ⟨#[]⟩ true))),(eO b23 46 (tA ((Tm.mk 6 0 ⟨#[]⟩ [Tm.mk 1 3 ⟨#[]⟩ []])) A21 c21)),(eO b17 34 (wA (Wd.mk 6 4 ⟨#[]⟩ true))),(eO b12 34 (wA (Wd.mk 4 3 ⟨#[]⟩ true))),(eO b6 34 (wA (Wd.mk 5 0 ⟨#[]⟩ true))),en29]) hK oks5 (x:=(Wd.mk 5 0 ⟨#[]⟩ true));rw [show ((s5.free (Wd.mk 5 0 ⟨#[]⟩ true)).2.1)=([Wd.mk 1 1 ⟨#[]⟩ false,Wd.mk 2 0 ⟨#[97]⟩ false]: List Wd) from by kernel_rfl] at hk44;rw [show (s5.free (Wd.mk 5 0 ⟨#[]⟩ true)).2.2=0 from by kernel_rfl] at hk44;rw [show ([Wd.mk 1 1 ⟨#[]⟩ false,Wd.mk 2 0 ⟨#[97]⟩ false]: List Wd).length=2 from by kernel_rfl] at hk44;refine lin rfl (aC func12 rfl rfl (ha.evs rfl) ha rfl (hk44) ?_);rintro e w ⟨L43,A43,c43,en43,rfl,hR43,hK43,hc43⟩;refine⟨_,rfl,fun a ha=>?_⟩;have hS:=hS.frameR [(eO b33 34 (wA (Wd.mk 5 0 ⟨#[]⟩ true))),(eO b23 46 (tA ((Tm.mk 6 0 ⟨#[]⟩ [Tm.mk 1 3 ⟨#[]⟩ []])) A21 c21)),(eO b17 34 (wA (Wd.mk 6 4 ⟨#[]⟩ true))),(eO b12 34 (wA (Wd.mk 4 3 ⟨#[]⟩ true))),(eO b6 34 (wA (Wd.mk 5 0 ⟨#[]⟩ true))),en29] hc43;have hK: HK p1 s6 L43:=hK43;refine Lm rfl ha fun a ha=>?_;refine lin rfl (ad (v:=(.slice A43 2 c43)) ha rfl rfl rfl fun a ha=>?_);refine lin rfl (ad (v:=(iV 0)) ha rfl rfl rfl fun a ha=>?_);refine Ls rfl ha fun a ha=>?_;refine Ls rfl ha fun a ha=>?_;refine wpList_nil (aa (wp_seq (wp_seq (ab (Lm rfl ha fun a ha=>?_)))));refine lin rfl (bG (i:=0) (j:=0) ha rfl rfl rfl fun a ha=>?_);refine Lm rfl ha fun a ha=>?_;refine ae rfl ha rfl rfl rfl (ak ha rfl rfl fun a ha=>?_);refine ae rfl ha rfl rfl rfl (aK T29.und ha rfl rfl fun a ha=>?_);refine ae rfl ha rfl rfl rfl (bG (i:=2) (j:=2) ha rfl rfl rfl fun a ha=>?_);refine lin rfl (am ha rfl rfl rfl fun a ha=>?_);refine Lm rfl ha fun a ha=>?_;refine ae rfl ha rfl rfl rfl (ak ha rfl rfl fun a ha=>?_);have hk46:=fE (hS.tail [(eO b33 34 (wA (Wd.mk 5 0 ⟨#[]⟩ true))),(eO b23 46 (tA ((Tm.mk 6 0 ⟨#[]⟩ [Tm.mk 1 3 ⟨#[]⟩ []])) A21 c21)),(eO b17 34 (wA (Wd.mk 6 4 ⟨#[]⟩ true))),(eO b12 34 (wA (Wd.mk 4 3 ⟨#[]⟩ true))),(eO b6 34 (wA (Wd.mk 5 0 ⟨#[]⟩ true))),en29,en43]) hK;rw [show (HS.u s6)=3 from by kernel_rfl] at hk46;refine ae rfl ha rfl rfl rfl (aC func17 rfl rfl (ha.evs rfl) ha rfl (hk46) ?_);rintro e w ⟨rfl,hc45⟩;refine⟨_,rfl,fun a ha=>?_⟩;have hS:=hS.frameR [(eO b33 34 (wA (Wd.mk 5 0 ⟨#[]⟩ true))),(eO b23 46 (tA ((Tm.mk 6 0 ⟨#[]⟩ [Tm.mk 1 3 ⟨#[]⟩ []])) A21 c21)),(eO b17 34 (wA (Wd.mk 6 4 ⟨#[]⟩ true))),(eO b12 34 (wA (Wd.mk 4 3 ⟨#[]⟩ true))),(eO b6 34 (wA (Wd.mk 5 0 ⟨#[]⟩ true))),en29,en43] hc45;refine ae rfl ha rfl rfl rfl (bG (i:=3) (j:=3) ha rfl rfl rfl fun a ha=>?_);refine lin rfl (am ha rfl rfl rfl fun a ha=>?_);refine Lm rfl ha fun a ha=>?_;refine ae rfl ha rfl rfl rfl (ak ha rfl rfl fun a ha=>?_);refine ae rfl ha rfl rfl rfl (al (vs:=(wL (Wd.mk 6 4 ⟨#[]⟩ true))) T34 rfl ha rfl (hS.blkL 2 rfl) rfl (ag rfl) rfl fun a ha=>?_);refine ae rfl ha rfl rfl rfl (aY (vs:= [(0,(.agg (wA (Wd.mk 6 4 ⟨#[]⟩ true))))]) (cells:=(wL (Wd.mk 6 4 ⟨#[]⟩ true))) T29.und T34 hS ha (ha.evp rfl) rfl rfl rfl rfl fun b47 a w hS ha=>?_);obtain⟨H47,hS,hle47,hb47⟩:=hS.give;have hk49:=dO (hS.tail [(eO b33 34 (wA (Wd.mk 5 0 ⟨#[]⟩ true))),(eO b23 46 (tA ((Tm.mk 6 0 ⟨#[]⟩ [Tm.mk 1 3 ⟨#[]⟩ []])) A21 c21)),(eO b17 34 (wA (Wd.mk 6 4 ⟨#[]⟩ true))),(eO b12 34 (wA (Wd.mk 4 3 ⟨#[]⟩ true))),(eO b6 34 (wA (Wd.mk 5 0 ⟨#[]⟩ true))),en29,en43]) hK oks6 (RowG.of_lit Wd.len ([(Wd.mk 6 4 ⟨#[]⟩ true)]: List Wd) hb47 (by simp) rfl);rw [show (auditS (HS.S s6) ([(Wd.mk 6 4 ⟨#[]⟩ true)]: List Wd))=213 from by kernel_rfl] at hk49;refine ae rfl ha rfl rfl rfl (aC func33 rfl rfl (ha.evs rfl) ha rfl (hk49) ?_);rintro e w ⟨H48,rfl,hc48⟩;refine⟨_,rfl,fun a ha=>?_⟩;have hS:=hS.frameR [(eO b33 34 (wA (Wd.mk 5 0 ⟨#[]⟩ true))),(eO b23 46 (tA ((Tm.mk 6 0 ⟨#[]⟩ [Tm.mk 1 3 ⟨#[]⟩ []])) A21 c21)),(eO b17 34 (wA (Wd.mk 6 4 ⟨#[]⟩ true))),(eO b12 34 (wA (Wd.mk 4 3 ⟨#[]⟩ true))),(eO b6 34 (wA (Wd.mk 5 0 ⟨#[]⟩ true))),en29,en43] hc48;refine ae rfl ha rfl rfl rfl (bG (i:=213) (j:=213) ha rfl rfl rfl fun a ha=>?_);refine lin rfl (am ha rfl rfl rfl fun a ha=>?_);refine Lm rfl ha fun a ha=>?_;refine ae rfl ha rfl rfl rfl (ak ha rfl rfl fun a ha=>?_);have hk51:=dO (hS.tail [(eO b33 34 (wA (Wd.mk 5 0 ⟨#[]⟩ true))),(eO b23 46 (tA ((Tm.mk 6 0 ⟨#[]⟩ [Tm.mk 1 3 ⟨#[]⟩ []])) A21 c21)),(eO b17 34 (wA (Wd.mk 6 4 ⟨#[]⟩ true))),(eO b12 34 (wA (Wd.mk 4 3 ⟨#[]⟩ true))),(eO b6 34 (wA (Wd.mk 5 0 ⟨#[]⟩ true))),en29,en43]) hK oks6 (RowG.nil (sz:=4) (f:=Wd.cells));rw [show (auditS (HS.S s6) ([]))=0 from by kernel_rfl] at hk51;refine ae rfl ha rfl rfl rfl (aC func33 rfl rfl (ha.evs rfl) ha rfl (hk51) ?_);rintro e w ⟨H50,rfl,hc50⟩;refine⟨_,rfl,fun a ha=>?_⟩;have hS:=hS.frameR [(eO b33 34 (wA (Wd.mk 5 0 ⟨#[]⟩ true))),(eO b23 46 (tA ((Tm.mk 6 0 ⟨#[]⟩ [Tm.mk 1 3 ⟨#[]⟩ []])) A21 c21)),(eO b17 34 (wA (Wd.mk 6 4 ⟨#[]⟩ true))),(eO b12 34 (wA (Wd.mk 4 3 ⟨#[]⟩ true))),(eO b6 34 (wA (Wd.mk 5 0 ⟨#[]⟩ true))),en29,en43] hc50;refine ae rfl ha rfl rfl rfl (bG (i:=0) (j:=0) ha rfl rfl rfl fun a ha=>?_);refine lin rfl (am ha rfl rfl rfl fun a ha=>?_);refine wpList_nil (aa (ai ha rfl (wp_skip (aa (wp_seq (ab (Lm rfl ha fun a ha=>?_)))))));refine lin rfl (aG (vs:= [(0,(iV 1)),(1,(iV 2))]) (cells:= [(iV 1),(iV 2),(.string (⟨#[]⟩)),(.bool false)]) T34 PL34 ha (ha.evp rfl) rfl rfl fun a ha=>?_);refine lin rfl (aY (vs:= [(0,(.agg #[(iV 1),(iV 2),(.string (⟨#[]⟩)),(.bool false)]))]) (cells:= [(iV 1),(iV 2),(.string (⟨#[]⟩)),(.bool false)]) T29.und T34 hS ha (ha.evp rfl) rfl rfl rfl rfl fun b52 a w hS ha=>?_);obtain⟨H52,hS,hle52,hb52⟩:=hS.give;have hk54:=fD (hS.tail [(eO b33 34 (wA (Wd.mk 5 0 ⟨#[]⟩ true))),(eO b23 46 (tA ((Tm.mk 6 0 ⟨#[]⟩ [Tm.mk 1 3 ⟨#[]⟩ []])) A21 c21)),(eO b17 34 (wA (Wd.mk 6 4 ⟨#[]⟩ true))),(eO b12 34 (wA (Wd.mk 4 3 ⟨#[]⟩ true))),(eO b6 34 (wA (Wd.mk 5 0 ⟨#[]⟩ true))),en29,en43]) hK oks6 ((RdG.of_data hS.inv (RowG.of_lit Wd.len ([(Wd.mk 1 2 (⟨#[]⟩) false)]: List Wd) hb52 (by simp) rfl)).fewer (bz [(eO b33 34 (wA (Wd.mk 5 0 ⟨#[]⟩ true))),(eO b23 46 (tA ((Tm.mk 6 0 ⟨#[]⟩ [Tm.mk 1 3 ⟨#[]⟩ []])) A21 c21)),(eO b17 34 (wA (Wd.mk 6 4 ⟨#[]⟩ true))),(eO b12 34 (wA (Wd.mk 4 3 ⟨#[]⟩ true))),(eO b6 34 (wA (Wd.mk 5 0 ⟨#[]⟩ true))),en29,en43])) (s:=⟨#[103]⟩);rw [show (s6.fun_ (⟨#[103]⟩) ([(Wd.mk 1 2 (⟨#[]⟩) false)]: List Wd)).2.1=(Wd.mk 5 0 ⟨#[]⟩ true) from by kernel_rfl] at hk54;rw [show (s6.fun_ (⟨#[103]⟩) ([(Wd.mk 1 2 (⟨#[]⟩) false)]: List Wd)).2.2=0 from by kernel_rfl] at hk54;refine lin rfl (aC func16 rfl rfl (ha.evs rfl) ha rfl (hk54) ?_);rintro e w ⟨L53,rfl,hK53,hc53⟩;refine⟨_,rfl,fun a ha=>?_⟩;have hS:=hS.frameR [(eO b33 34 (wA (Wd.mk 5 0 ⟨#[]⟩ true))),(eO b23 46 (tA ((Tm.mk 6 0 ⟨#[]⟩ [Tm.mk 1 3 ⟨#[]⟩ []])) A21 c21)),(eO b17 34 (wA (Wd.mk 6 4 ⟨#[]⟩ true))),(eO b12 34 (wA (Wd.mk 4 3 ⟨#[]⟩ true))),(eO b6 34 (wA (Wd.mk 5 0 ⟨#[]⟩ true))),en29,en43] hc53;have hK: HK p1 s7 L53:=hK53;refine Lm rfl ha fun a ha=>?_;refine lin rfl (ad (v:=(.agg (wA (Wd.mk 5 0 ⟨#[]⟩ true)))) ha rfl rfl rfl fun a ha=>?_);refine lin rfl (ad (v:=(iV 0)) ha rfl rfl rfl fun a ha=>?_);refine lin rfl (aj (cs':=(wA (Wd.mk 5 0 ⟨#[]⟩ true))) T34 hS (i:=4) rfl ha rfl rfl rfl rfl rfl rfl fun a w hS ha=>?_);refine Ls rfl ha fun a ha=>?_;refine wpList_nil (aa (wp_seq (ab (Lm rfl ha fun a ha=>?_))));refine lin rfl (bq (i:=0) (j:=0) ha rfl rfl rfl fun a ha=>?_);refine Lm rfl ha fun a ha=>?_;refine ae rfl ha rfl rfl rfl (ac (f:=1) (o2:=1) T34 T3 rfl rfl rfl rfl ha rfl rfl fun a ha=>?_);refine ae rfl ha rfl rfl rfl (af (v:=(iV (((Wd.mk 5 0 ⟨#[]⟩ true)).n))) T3 rfl ha rfl (hS.blkL 4 rfl) rfl rfl fun a ha=>?_);refine ae rfl ha rfl rfl rfl (bq (i:=(((Wd.mk 5 0 ⟨#[]⟩ true)).n)) (j:=0) ha rfl rfl rfl fun a ha=>?_);refine lin rfl (aq ha rfl rfl rfl fun a ha=>?_);refine Ls rfl ha fun a ha=>?_;refine wpList_nil (aa (wp_ret (ret1 rfl ha rfl ?_)));exact⟨_,rfl,hS.drop_all⟩
end Go.Vk.Try
namespace Go.Vk
open Go.RowKit
section
variable {P: Program} {K: Act→World→Prop} {Q: Exit→Act→World→Prop} {D: List Deferred} {a: Act} {w w0: World} {H0 H: PHeap} {L0 L: List Ent} {N: Nat} {m: Env} {d: Nat} {ty: TypeId} {pos: String} {aft: Array Edge} {g: Option (Nat × Bool)}
variable {x y y' y'': Operand} {t e: TypeId} {de: TypeDesc} {size bytes: Nat} {z: Value} {b o n c l h: Nat} {i i' i'': Int}
theorem o_slice2 (ht: P.underlying t=some (.slice e)) (T: Ty P e de size bytes z) (ha: Has D a N m) (hx: ev m x=some (.slice (some ⟨b,o,none⟩) n c)) (hy: ev m y=some (.int .i64 i)) (hy': ev m y'=some (.int .i64 i')) (hi: i=(l: Int)) (hi': i'=(h: Int)) (hlh: l≤h) (hc: h≤c) (hlc: l < c) (hd: Nat.blt d N=true)
  (k: ∀ a',Has D a' N ((d,.slice (some ⟨b,o+l * size,none⟩) (h - l) (c - l))::m)→K a' w): Oper.wp P ⟨some d,.slice t x (some y) (some y') none,ty,pos,aft,g⟩ a w K Q:=by
 subst hi hi';refine aL ?_ ha hd k;have h1: ¬ c=l:=by omega
 simp [execOp,ha.ev hx,ha.ev hy,ha.ev hy',Instr.sliceAt,Instr.slice,Instr.sliceBounds,Instr.sliceBound,asIntOf,run_underlying ht,T.run_sizeOf,hlh,hc,h1,aN]
theorem o_slice3 {q: Nat} (ht: P.underlying t=some (.slice e)) (T: Ty P e de size bytes z) (ha: Has D a N m) (hx: ev m x=some (.slice (some ⟨b,o,none⟩) n c)) (hy: ev m y=some (.int .i64 i)) (hy': ev m y'=some (.int .i64 i')) (hy'': ev m y''=some (.int .i64 i'')) (hi: i=(l: Int)) (hi': i'=(h: Int)) (hi'': i''=(q: Int)) (hlh: l≤h) (hhq: h≤q) (hc: q≤c) (hlq: l < q) (hd: Nat.blt d N=true)
  (k: ∀ a',Has D a' N ((d,.slice (some ⟨b,o+l * size,none⟩) (h - l) (q - l))::m)→K a' w): Oper.wp P ⟨some d,.slice t x (some y) (some y') (some y''),ty,pos,aft,g⟩ a w K Q:=by
 subst hi hi' hi'';refine aL ?_ ha hd k;have h1: ¬ q=l:=by omega
 simp [execOp,ha.ev hx,ha.ev hy,ha.ev hy',ha.ev hy'',Instr.sliceAt,Instr.slice,Instr.sliceBounds,Instr.sliceBound,asIntOf,run_underlying ht,T.run_sizeOf,hlh,hhq,hc,h1,aN]
theorem o_sliceL (ht: P.underlying t=some (.slice e)) (T: Ty P e de size bytes z) (ha: Has D a N m) (hx: ev m x=some (.slice (some ⟨b,o,none⟩) n c)) (hy: ev m y=some (.int .i64 i)) (hi: i=(l: Int)) (hlh: l≤n) (hc: n≤c) (hd: Nat.blt d N=true)
  (k: ∀ a',Has D a' N ((d,.slice (some ⟨b,if c=l then o else o+l * size,none⟩) (n - l) (c - l))::m)→K a' w): Oper.wp P ⟨some d,.slice t x (some y) none none,ty,pos,aft,g⟩ a w K Q:=by
 subst hi;refine aL (v:=.slice (some ⟨b,if c=l then o else o+l * size,none⟩) (n - l) (c - l)) (w':=w) ?_ ha hd k
 by_cases h1: c=l
 ·simp [execOp,ha.ev hx,ha.ev hy,Instr.sliceAt,Instr.slice,Instr.sliceBounds,Instr.sliceBound,asIntOf,run_underlying ht,T.run_sizeOf,hlh,hc,h1,aN]
 ·simp [execOp,ha.ev hx,ha.ev hy,Instr.sliceAt,Instr.slice,Instr.sliceBounds,Instr.sliceBound,asIntOf,run_underlying ht,T.run_sizeOf,hlh,hc,h1,aN]
theorem o_appendIn {A: Option Addr} {k q c' j e': Nat} {cs cs': Array Value} (ht: P.underlying t=some (.slice e)) (T: Ty P e de size bytes z) (hS: Step w0 H0 L0 w H L) (hj: L[j]? =some (some b,.cells cs e' (0,0))) (ha: Has D a N m) (hx: ev m x=some (.slice (some ⟨b,0,none⟩) k c)) (hy: ev m y=some (.slice A q c')) (hA: 0 < q→A=some ⟨b,o,none⟩)
  (hkq: k+q≤c) (hfit: c * size≤cs.size) (ho: 0 < q→o+q * size≤cs.size) (h1: ∀ u ∈(cs.toList.drop o).take (q * size),u.oneCell'=true) (hcs: cs'.toList=cs.toList.take (k * size)++(cs.toList.drop o).take (q * size)++cs.toList.drop ((k+q) * size)) (hd: Nat.blt d N=true)
  (kk: ∀ a' w',Step w0 H0 L0 w' H (L.set j (some b,.cells cs' e' (0,0)))→Has D a' N ((d,.slice (some ⟨b,0,none⟩) (k+q) c)::m)→K a' w') :
  Oper.wp P ⟨some d,.call { callee:=.builtin .append,args:= #[x,y],argTypes:= #[t,t] },ty,pos,aft,g⟩ a w K Q:=by
 obtain⟨vs,hvs⟩: ∃ vs,vs=(cs.toList.drop o).take (q * size):=⟨_,rfl⟩;obtain⟨inf,hinf,hz,hsz,hby⟩:=T.info;have hcell:=hS.inv.at_ j hj;have hkq2:(k+q) * size≤c * size:=Nat.mul_le_mul_right _ hkq;rw [Nat.add_mul] at hkq2
 by_cases hq: q=0
 ·subst hq;have hload: ∀ x: Option Addr,(Builtin.firstCells size 0 (.slice x 0 c')).run P w=.ok #[] w:=by
   intro x
   cases x <;> simp [Builtin.firstCells,loadCells,loadCellsFrom]
  have hs': cs'=cs:=by
   apply Array.toList_inj.1
   rw [hcs];simp
  subst hs';refine aL (w':=w) (v:=.slice (some ⟨b,0,none⟩) k c) ?_ ha hd (fun a' h=>kk a' w ?_ h)
  ·have hkc: k≤c:=by omega
   simp [execOp,resolve,invoke,builtin,ha.ev hx,ha.ev hy,Builtin.append_,run_underlying ht,sizeOf,typeInfo,hinf,hsz,Builtin.lenOf,hload,hkc,storeCells]
  ·have:=hS.putObj j hj (.cells cs' e' (0,0));have he: L.set j (some b,.cells cs' e' (0,0))=L:=by
    apply List.ext_getElem?
    intro r;rw [List.getElem?_set]
    split
    ·rename_i e1
     subst e1;rw [hj,if_pos (List.getElem?_eq_some_iff.1 hj).1]
    ·rfl
   rw [he];exact hS
 ·have hq0: 0 < q:=by omega
  obtain rfl:=hA hq0;have hol:=ho hq0;have hvl: vs.length=q * size:=by
   rw [hvs,List.length_take,List.length_drop,Array.length_toList];omega
  have hload:(Builtin.firstCells size q (.slice (some ⟨b,o,none⟩) q c')).run P w=.ok vs.toArray w:=by
   have hl:=run_loadCells_list (P:=P) w ⟨b,o,none⟩ vs (fun r u hr=>by
    rw [aN];simp only [World.cell?,hcell];rw [hvs,List.getElem?_take] at hr
    split at hr
    ·rw [List.getElem?_drop] at hr;simpa using hr
    ·cases hr)
   rw [hvl] at hl;simpa [Builtin.firstCells] using hl
  have hrun:=run_storeCells_at (P:=P) b (k * size) e' vs 0 cs w hcell (by rw [hvl];omega) (by rw [hvs];exact h1);have hstore:(storeCells ((⟨b,0,none⟩: Addr).add (k * size)) vs).run P w=.ok () (w.setRow b cs'):=by
   rw [aN,Nat.zero_add,hrun]
   congr 2
   apply Array.toList_inj.1
   rw [hcs,Nat.add_zero,hvl,← hvs,Nat.add_mul]
  refine aL (w':=w.setRow b cs') (v:=.slice (some ⟨b,0,none⟩) (k+q) c) ?_ ha hd (fun a' h=>kk a' _ (hS.setRow j hj cs') h);simp [execOp,resolve,invoke,builtin,ha.ev hx,ha.ev hy,Builtin.append_,run_underlying ht,sizeOf,typeInfo,hinf,hsz,Builtin.lenOf,hload,hkq,hstore]
theorem o_clear {j e': Nat} {cs cs': Array Value} (ht: P.underlying t=some (.slice e)) (T: Ty P e de size bytes z) (hzs: z.cells.size=size) (hS: Step w0 H0 L0 w H L) (hj: L[j]? =some (some b,.cells cs e' (0,0))) (ha: Has D a N m) (hx: ev m x=some (.slice (some ⟨b,o,none⟩) n c))
  (hn: 0 < n) (hfit: o+n * size≤cs.size) (h1: ∀ u ∈ zcells z n,u.oneCell'=true) (hcs: cs'.toList=cs.toList.take o++zcells z n++cs.toList.drop (o+n * size))
  (kk: ∀ a' w',Step w0 H0 L0 w' H (L.set j (some b,.cells cs' e' (0,0)))→Has D a' N m→K a' w') :
  Oper.wp P ⟨none,.call { callee:=.builtin .clear,args:= #[x],argTypes:= #[t] },ty,pos,aft,g⟩ a w K Q:=by
 have hcell:=hS.inv.at_ j hj;have hzl:(zcells z n).length=n * size:=by rw [aS,hzs]
 have hrun:=run_storeCells_at (P:=P) b o e' (zcells z n) 0 cs w hcell (by rw [hzl];omega) h1;have hstore:(storeCells ⟨b,o,none⟩ (Builtin.zeroCells z.cells n).toList).run P w=.ok () (w.setRow b cs'):=by
  have:(Builtin.zeroCells z.cells n).toList=zcells z n:=rfl;rw [this,hrun]
  congr 2
  apply Array.toList_inj.1
  rw [hcs,Nat.add_zero,hzl]
 obtain⟨n',rfl⟩: ∃ n',n=n'+1:=⟨n - 1,by omega⟩;have hr:(execOp a.eval ⟨none,.call { callee:=.builtin .clear,args:= #[x],argTypes:= #[t] },ty,pos,aft,g⟩).run P w=.ok (.value (.tuple #[])) (w.setRow b cs'):=by
  simp [execOp,resolve,invoke,builtin,ha.ev hx,Builtin.clear_,run_underlying ht,T.run_zero,hstore]
 unfold Oper.wp;rw [hr];exact kk _ _ (hS.setRow j hj cs') (ha.put_none _)
end
theorem row_open {A: Option Addr} {n c e size: Nat} {en: Ent} {xs: List Value} (h: Row (.slice A n c) en e size n xs) (hn: 0 < n): ∃(b: Nat) (cur: Array Value),A=some ⟨b,0,none⟩∧en=(some b,.cells cur e (0,0))∧n≤c∧c≤maxLen∧cur.size=c * size∧cur.toList.take (n * size)=xs:=by
 rcases h.2 with ⟨_,h2,_⟩ |⟨b,cap,cur,h1,h2,h3,h4,h5,h6⟩
 ·omega
 ·injection h1 with e1 _ e2
  subst e1 e2;exact⟨b,cur,rfl,h2,h3,h4,h5,h6⟩
theorem sub_mem {l: List Value} {o k n: Nat} (h: o+k≤n) {u: Value} (hu: u ∈(l.drop o).take k): u ∈ l.take n:=by
 obtain⟨r,hr⟩:=List.getElem?_of_mem hu;rw [List.getElem?_take] at hr
 split at hr
 ·rw [List.getElem?_drop] at hr;exact List.mem_of_getElem? (i:=o+r) (by rw [List.getElem?_take,if_pos (by omega)];exact hr)
 ·cases hr
theorem del_cells {cur zs rest: List Value} {p o t q r: Nat} (h: o+q=t) (hp: p≤o) (ht: t≤cur.length) (hr: r=p+q):((cur.take p++(cur.drop o).take q++cur.drop r).take r++zs++rest).take r=(cur.take t).take p++(cur.take t).drop o:=by
 have h1:(cur.take p++(cur.drop o).take q).length=r:=by
  rw [List.length_append,List.length_take,List.length_take,List.length_drop];omega
 have h2:(cur.take p++(cur.drop o).take q++cur.drop r).take r=cur.take p++(cur.drop o).take q:=List.take_left' h1;rw [h2,List.append_assoc,List.take_left' h1,List.take_take,Nat.min_eq_left (by omega),List.drop_take,show t - o=q by omega]
theorem zcells_one_wd (k: Nat): ∀ u ∈ zcells (.agg #[.int .i64 0,.int .i64 0,.string ⟨#[]⟩,.bool false]) k,u.oneCell'=true:=by
 rw [zcells_wd];exact aQ Wd.one' _
theorem del_wd {xs: List Wd} {i: Nat}:(gfl Wd.cells xs).take (i * 4)++(gfl Wd.cells xs).drop ((i+1) * 4)=gfl Wd.cells (xs.eraseIdx i):=by
 rw [cZ Wd.len,dK Wd.len,← aF,List.eraseIdx_eq_take_drop_succ]
end Go.Vk
namespace Go.Vk.Try
open Go.RowKit
theorem c_DeleteW {w0: World} {H: PHeap} {A: Option Addr} {n c i: Nat} {iv jv: Int} {en: Ent} {xs: List Wd} (hI: Inv w0 H [en]) (hR: Row (.slice A n c) en 34 4 n (gfl Wd.cells xs)) (hi: i < n) (hiv: iv=(i: Nat)) (hjv: jv=iv+1): Calls prog 13 #[.slice A n c,.int .i64 iv,.int .i64 jv] w0 (fun e w'=> ∃ en',e=.returned (.slice A (n - 1) c)∧Row (.slice A (n - 1) c) en' 34 4 (n - 1) (gfl Wd.cells (xs.eraseIdx i))∧Step w0 H [en] w' H [en']):=by
 obtain⟨b,cur,rfl,rfl,hnc,hcm,hcs,htk⟩:=row_open hR (by omega);have hS:=Step.refl hI;have h1_: ∀ u ∈ gfl Wd.cells xs,u.oneCell'=true:=aQ Wd.one' _;have hmx_: maxLen=maxLen:=rfl;refine enter [(.slice (some ⟨b,0,none⟩) n c),(iV iv),(iV jv)] func13 rfl ntmps13 rfl fun a ha=>?_;refine wp_seq (ab (Ls rfl ha fun a ha=>?_));refine wpList_nil (aa (wp_seq (ab (Lm rfl ha fun a ha=>?_))));refine Lm rfl ha fun a ha=>?_;refine Lm rfl ha fun a ha=>?_;refine Lm rfl ha fun a ha=>?_;refine lin rfl (aK T29.und ha rfl rfl fun a ha=>?_);refine lin rfl (o_slice3 (l:=i) (h:=i+1) (q:=n) T29.und T34 ha rfl rfl rfl rfl (by omega) (by omega) rfl (by omega) (by omega) (by omega) (by omega) rfl fun a ha=>?_);refine wpList_nil (aa (wp_seq (wp_seq (ab (Lm rfl ha fun a ha=>?_)))));refine Lm rfl ha fun a ha=>?_;refine lin rfl (bq (i:=iv) (j:=jv) ha rfl rfl rfl fun a ha=>?_);refine wpList_nil (aa (an (t:=16) ha rfl (fun h1 ha=>?_) (fun h1 ha=>?_)))
 ·refine ao ha rfl (wp_seq (ab (Lm rfl ha fun a ha=>?_)));refine Ls rfl ha fun a ha=>?_;refine wpList_nil (aa (wp_ret (ah (ret1 rfl ha rfl ?_))))
  exfalso
  omega
 ·refine ai ha rfl (wp_skip (aa (wp_seq (ab (Lm rfl ha fun a ha=>?_)))));refine lin rfl (aK T29.und ha rfl rfl fun a ha=>?_);refine Ls rfl ha fun a ha=>?_;refine wpList_nil (aa (wp_seq ?_));have hS_:=hS;refine As.c_draw_head (ini:=(As.il [])) (sup:=(As.sl [])) (als:= []) (s0:=⟨H,fun _=>none⟩) (L:= [(some b,.cells cur 34 (0,0))]) (N:=33) (E:= [(0,(.slice (some ⟨b,0,none⟩) n c)),(1,(iV iv)),(2,(iV jv)),(7,(iV ((n: Nat): Int)))]) 6 [fun _ v=>v=(.slice (some ⟨b,0,none⟩) n c),fun _ v=>v=(iV iv),fun _ v=>v=(.slice (some ⟨b,0,none⟩) i c),fun _ v=>v=(.slice (some ⟨b,0,none⟩) n c),fun _ v=>v=(iV jv),fun _ v=>v=(.slice (some ⟨b,if c=i+1 then 0 else 0+(i+1) * 4,none⟩) (n - (i+1)) (c - (i+1)))] mixed rfl rfl rfl (As.Monos.cons (fun _ _ _ _ h=>h) (As.Monos.cons (fun _ _ _ _ h=>h) (As.Monos.cons (fun _ _ _ _ h=>h) (As.Monos.cons (fun _ _ _ _ h=>h) (As.Monos.cons (fun _ _ _ _ h=>h) (As.Monos.cons (fun _ _ _ _ h=>h) (As.Monos.nil))))))) (fun _=>rfl) hS (ha.pk rfl) (As.QuietsI.cons ?_ (As.QuietsI.cons ?_ (As.QuietsI.cons ?_ (As.QuietsI.cons ?_ (As.QuietsI.cons ?_ (As.QuietsI.cons ?_ (As.QuietsI.nil))))))) (fun f_ a w s_ hls hS ha hdr_=>?_)
  ·refine As.Qx rfl fun a w H_ ax_ hle hax_ hS ha hd hls=>?_;have hSf:=hS;refine id (ak ha rfl rfl fun a ha=>?_);exact As.qdone (s:=⟨H_,ax_⟩) (Le.refl _) ha hSf rfl
  ·refine As.Qx rfl fun a w H_ ax_ hle hax_ hS ha hd hls=>?_;have hSf:=hS;refine id (ak ha rfl rfl fun a ha=>?_);exact As.qdone (s:=⟨H_,ax_⟩) (Le.refl _) ha hSf rfl
  ·refine As.Qx rfl fun a w H_ ax_ hle hax_ hS ha hd hls=>?_;obtain⟨_,ha,rfl⟩:=hd.g ha 0 rfl;obtain⟨_,ha,rfl⟩:=hd.g ha 1 rfl;have hSf:=hS;refine id (dR (h:=i) T29.und T34 ha rfl rfl (by omega) (by omega) rfl fun a ha=>?_);exact As.qdone (s:=⟨H_,ax_⟩) (Le.refl _) ha hSf rfl
  ·refine As.Qx rfl fun a w H_ ax_ hle hax_ hS ha hd hls=>?_;have hSf:=hS;refine id (ak ha rfl rfl fun a ha=>?_);exact As.qdone (s:=⟨H_,ax_⟩) (Le.refl _) ha hSf rfl
  ·refine As.Qx rfl fun a w H_ ax_ hle hax_ hS ha hd hls=>?_;have hSf:=hS;refine id (ak ha rfl rfl fun a ha=>?_);exact As.qdone (s:=⟨H_,ax_⟩) (Le.refl _) ha hSf rfl
  ·refine As.Qx rfl fun a w H_ ax_ hle hax_ hS ha hd hls=>?_;obtain⟨_,ha,rfl⟩:=hd.g ha 3 rfl;obtain⟨_,ha,rfl⟩:=hd.g ha 4 rfl;have hSf:=hS;refine id (o_sliceL (l:=i+1) T29.und T34 ha rfl rfl (by omega) (by omega) (by omega) rfl fun a ha=>?_);exact As.qdone (s:=⟨H_,ax_⟩) (Le.refl _) ha hSf rfl
  obtain⟨H2,ax_⟩:=s_;have hle2: Le H H2:=hls.le;dsimp only at hdr_ hS;obtain⟨_,hv_,rfl⟩:=hdr_ 2 _ _ rfl rfl;have ha:=ha.add (hv_ _ rfl);obtain⟨_,hv_,rfl⟩:=hdr_ 5 _ _ rfl rfl;have ha:=ha.add (hv_ _ rfl);refine any1 (i:=6) (by kernel_rfl) rfl rfl (o_appendIn (o:=0+(i+1) * 4) (k:=i) (q:=n - (i+1)) (c':=c - (i+1)) (cs:=cur) (cs':=(cur.toList.take (i * 4)++(cur.toList.drop (0+(i+1) * 4)).take ((n - (i+1)) * 4)++cur.toList.drop ((i+(n - (i+1))) * 4)).toArray) T29.und T34 hS (j:=0) rfl ha rfl rfl (fun hq=>by rw [if_neg (by omega)]) (by omega) (by omega) (fun hq=>by omega) (fun u hu=>h1_ u (htk ▸ sub_mem (by omega) hu)) (by simp) rfl fun a w hS ha=>?_);refine any1 (i:=7) (by kernel_rfl) rfl rfl (aH ha rfl rfl fun a ha=>?_);refine any0 (by kernel_rfl) ?_;refine aa (wp_seq (ab (Lm rfl ha fun a ha=>?_)));refine Lm rfl ha fun a ha=>?_;refine lin rfl (aK T29.und ha rfl rfl fun a ha=>?_);refine Lm rfl ha fun a ha=>?_;refine lin rfl (o_slice2 (l:=(i+(n - (i+1)))) (h:=n) T29.und T34 ha rfl rfl rfl rfl rfl (by omega) (by omega) (by omega) rfl fun a ha=>?_);obtain⟨cs1,hcs1⟩: ∃ c_,c_=(cur.toList.take (i * 4)++(cur.toList.drop (0+(i+1) * 4)).take ((n - (i+1)) * 4)++cur.toList.drop ((i+(n - (i+1))) * 4)).toArray:=⟨_,rfl⟩;rw [← hcs1] at hS;have hl1: cs1.size=cur.size:=by
   have hl_: cur.toList.length=cur.size:=Array.length_toList;rw [hcs1];simp only [List.size_toArray,List.length_append,List.length_take,List.length_drop,hl_];omega
  refine lin rfl (o_clear (n:=(n - (i+(n - (i+1))))) (cs:=cs1) (cs':=(cs1.toList.take (0+(i+(n - (i+1))) * 4)++zcells (.agg #[(iV 0),(iV 0),(.string ⟨#[]⟩),(.bool false)]) (n - (i+(n - (i+1))))++cs1.toList.drop (0+(i+(n - (i+1))) * 4+(n - (i+(n - (i+1)))) * 4)).toArray) T29.und T34 rfl hS (j:=0) rfl ha rfl (by omega) (by omega) (zcells_one_wd _) (by simp) fun a w hS ha=>?_);refine wpList_nil (aa (wp_seq (ab (Lm rfl ha fun a ha=>?_))));refine Ls rfl ha fun a ha=>?_;refine wpList_nil (aa (wp_ret (ret1 rfl ha rfl ?_)));have hn_: i+(n - (i+1))=n - 1:=by omega
  rw [hn_];refine⟨_,rfl,⟨?_,.inr ⟨b,c,_,rfl,rfl,by omega,hcm,?_,?_⟩⟩,hS.plain⟩
  ·have hle_: n≤c:=hnc;have hx_:(gfl Wd.cells xs).length=n * 4:=hR.1;rw [← del_wd,List.length_append,List.length_take,List.length_drop,hx_];omega
  ·have hl_: cs1.toList.length=cs1.size:=Array.length_toList;simp only [List.size_toArray,List.length_append,List.length_take,List.length_drop,hl_,aS];rw [show (Value.cells (.agg #[(iV 0),(iV 0),(.string ⟨#[]⟩),(.bool false)])).size=4 from rfl];omega
  ·have h_:=del_cells (cur:=cur.toList) (zs:=zcells (.agg #[(iV 0),(iV 0),(.string ⟨#[]⟩),(.bool false)]) (n - (i+(n - (i+1))))) (rest:=cs1.toList.drop (0+(i+(n - (i+1))) * 4+(n - (i+(n - (i+1)))) * 4)) (p:=i * 4) (o:=0+(i+1) * 4) (t:=n * 4) (q:=(n - (i+1)) * 4) (r:=(i+(n - (i+1))) * 4) (by omega) (by omega) (by rw [Array.length_toList];omega) (by omega);rw [htk] at h_;rw [← del_wd];rw [show (i+1) * 4=0+(i+1) * 4 by omega,← h_,hcs1,hn_,Nat.zero_add]
end Go.Vk.Try
namespace Go.Vk
open Go.RowKit
section
variable {P: Program} {K: Act→World→Prop} {Q: Exit→Act→World→Prop} {D: List Deferred} {a: Act} {w: World} {N: Nat} {m: Env} {d: Nat} {ty: TypeId} {pos: String} {aft: Array Edge} {g: Option (Nat × Bool)} {x y: Operand} {tx ty': TypeId} {i j: Int}
theorem o_rem (ha: Has D a N m) (hx: ev m x=some (.int .i64 i)) (hy: ev m y=some (.int .i64 j)) (hj: ¬ j=0) (hd: Nat.blt d N=true) (k: ∀ a',Has D a' N ((d,.int .i64 (i.tmod j))::m)→K a' w) :
  Oper.wp P ⟨some d,.binOp .rem tx x y ty',ty,pos,aft,g⟩ a w K Q:=
 aL (by simp [execOp,ha.ev hx,ha.ev hy,eqGuard,binOp,Op.intDiv,hj]) ha hd k
end
def ixZ (k n: Int): Int:=(k.tmod n+n).tmod n
theorem tmod_bd {k n: Int} (hn: 0 < n): -n < k.tmod n∧k.tmod n < n:=by
 refine⟨?_,Int.tmod_lt_of_pos k hn⟩;have h1:=Int.tmod_lt_of_pos (-k) hn;rw [Int.neg_tmod] at h1;omega
theorem cE {k n: Int} {m: Nat} (hn: n=(m: Int)) (h: 0 < m): ∃ i: Nat,ixZ k n=(i: Int)∧i < m:=by
 have h1:=tmod_bd (k:=k) (n:=n) (by omega);have h2:=Int.tmod_nonneg n (show 0≤k.tmod n+n by omega);have h3:=Int.tmod_lt_of_pos (k.tmod n+n) (show 0 < n by omega);exact⟨(ixZ k n).toNat,by unfold ixZ;omega,by unfold ixZ;omega⟩
theorem d5 {tk: List Bool} {size q: Nat} (hq: q+size≤tk.length) (hfree: ∀ j,q≤j→j < q+size→tk[j]? =some false): ∀(k a: Nat),tk.length+1≤k+a→a≤q→∃ p: Nat,findP tk size k a=p∧p≤q
 | 0,a,hk,ha=>by omega
 | k+1,a,hk,ha=>by
  rw [findP,if_neg (by omega)]
  cases hf:((tk.drop a).take size).findIdx? id with
  | none=>exact ⟨a,rfl,ha⟩
  | some i =>
   obtain⟨hlt,ht,_⟩:=List.findIdx?_eq_some_iff_getElem.1 hf;rw [List.length_take,List.length_drop] at hlt;have h1: tk[a+i]? =some true:=by
    rw [List.getElem_take,List.getElem_drop] at ht;rw [List.getElem?_eq_getElem (by omega)];exact congrArg some ht
   have h2: a+i < q:=by
    refine Classical.byContradiction fun hc=>?_;rw [hfree (a+i) (by omega) (by omega)] at h1
    cases h1
   exact d5 hq hfree k (a+i+1) (by omega) (by omega)
def winB (tk: List Bool) (a size: Nat): List Bool:=(tk.drop a).take size
theorem eW {tk: List Bool} {a size: Nat} (h: a+size≤tk.length):(winB tk a size).contains true=false↔∀ j,a≤j→j < a+size→tk[j]? =some false:=by
 unfold winB
 constructor
 ·intro hc j h1 h2;have h3: j < tk.length:=by omega
  rw [List.getElem?_eq_getElem h3]
  cases hb: tk[j] with
  | false=>rfl
  | true =>
   have: true ∈(tk.drop a).take size:=by
    refine List.mem_of_getElem? (i:=j - a) ?_;rw [List.getElem?_take,if_pos (by omega),List.getElem?_drop,show a+(j - a)=j by omega,List.getElem?_eq_getElem h3,hb]
   rw [List.contains_iff_mem.2 this] at hc
   cases hc
 ·intro hf;rw [Bool.eq_false_iff];intro hc;have hm:=List.contains_iff_mem.1 hc;obtain⟨j,hj⟩:=List.getElem?_of_mem hm;rw [List.getElem?_take] at hj
  split at hj
  ·rw [List.getElem?_drop,hf (a+j) (by omega) (by omega)] at hj
   cases hj
  ·cases hj
def GP (tk: List Bool) (size a: Nat) (gap: Int): Prop:=
 (gap= -1∧∀ q,q < a→q+size≤tk.length→(winB tk q size).contains true=true)∨∃ q: Nat,gap=q∧q+size≤tk.length∧(winB tk q size).contains true=false∧∀ r,r < q→(winB tk r size).contains true=true
theorem GP.hit {tk: List Bool} {size a: Nat} {gap: Int} (h: GP tk size a gap) (hg: gap < 0) (ha: a+size≤tk.length) (hw:(winB tk a size).contains true=false): GP tk size (a+1) a:=by
 rcases h with ⟨_,h⟩ |⟨q,h,_⟩
 ·exact .inr ⟨a,rfl,ha,hw,fun r hr=>h r hr (by omega)⟩
 ·omega
theorem GP.done {tk: List Bool} {size a: Nat} {gap: Int} (hs: 1≤size) (h: GP tk size a gap) (hd: tk.length < a+size∨0≤gap): gap=findS tk size:=by
 unfold findS
 rcases h with ⟨h0,h⟩ |⟨q,h0,h1,h2,h3⟩
 ·rcases cJ tk size (tk.length+1) 0 with h4 |⟨p,h4,_,h5,h6⟩
  ·rw [h4,h0]
  ·have h7:=e8 h5 h6;have h8:=h p (by omega) h5;rw [(eW h5).2 h7] at h8
   cases h8
 ·obtain⟨p,h4,h5⟩:=d5 h1 ((eW h1).1 h2) (tk.length+1) 0 (by omega) (by omega);rw [h4,h0]
  by_cases e: p=q
  ·rw [e]
  ·exfalso
   rcases cJ tk size (tk.length+1) 0 with h6 |⟨p',h6,_,h7,h8⟩
   ·omega
   ·have e2: p'=p:=by omega
    subst e2;have h9:=h3 p' (by omega);rw [(eW h7).2 (e8 h7 h8)] at h9
    cases h9
structure SP (h: HS) (held: List Wd) (many: List Int): Prop where
 len: held.length=many.length
 at_: ∀(i: Nat) (w: Wd),held[i]? =some w→∃(s: ByteArray) (l: List Wd),w.tag=5∧0≤w.n∧w.s=⟨#[]⟩∧w.one=true∧h.S[w.n.toNat]? =some (some (.fn s l))∧many[i]? =some ((l.length+1: Nat): Int)
 dis: ∀(i j: Nat) (w v: Wd),held[i]? =some w→held[j]? =some v→w.n.toNat=v.n.toNat→i=j
theorem SP.new (n: Nat): SP (HS.new n) [] []:=⟨rfl,fun i w h=>by simp at h,fun i j w v h=>by simp at h⟩
theorem cC {α: Type} {l: List α} {i j: Nat} {x: α} (h:(l.eraseIdx i)[j]? =some x): ∃ k,l[k]? =some x∧k≠i∧k=if j < i then j else j+1:=by
 rw [List.getElem?_eraseIdx] at h
 split at h
 ·rename_i h1;exact⟨j,h,by omega,by rw [if_pos h1]⟩
 ·rename_i h1;exact⟨j+1,h,by omega,by rw [if_neg h1]⟩
theorem SP.free {h: HS} {held: List Wd} {many: List Int} (hp: SP h held many) (hO: h.Ok) {i: Nat} {w: Wd} (hw: held[i]? =some w): ∃ l: List Wd,h.free w=(h.clear w.n.toNat,(l,0))∧many[i]? =some ((l.length+1: Nat): Int)∧0≤w.n∧w.n.toNat+(l.length+1)≤h.S.length∧(h.clear w.n.toNat).tk=fillP h.tk w.n.toNat (l.length+1) false∧(h.clear w.n.toNat).u=h.u - ((l.length+1: Nat): Int)∧(h.clear w.n.toNat).S.length=h.S.length∧l.length≤64∧SP (h.clear w.n.toNat) (held.eraseIdx i) (many.eraseIdx i):=by
 obtain⟨s,l,h1,h2,h3,h4,h5,h6⟩:=hp.at_ i w hw;have hl:=(List.getElem?_eq_some_iff.1 h5).1;have hb:=hO.blk _ _ h5;have hat: atS h.S w=some (.fn s l):=(cl h2 (by omega) h3 h5).trans (if_pos h1);have hg: h.S.getD w.n.toNat none=some (.fn s l):=by rw [List.getD_eq_getElem?_getD,h5];rfl
 have hc: h.clear w.n.toNat=⟨h.S.set w.n.toNat none,fillP h.tk w.n.toNat (l.length+1) false,h.u - ((l.length+1: Nat): Int)⟩:=by
  unfold HS.clear;rw [hg];rfl
 refine⟨l,?_,h6,h2,hb.2,by rw [hc],by rw [hc],by rw [hc];exact List.length_set,hb.1,?_,?_,?_⟩
 ·unfold HS.free;rw [hat];simp [PB.tag,PB.words,h4]
 ·have hi:=(List.getElem?_eq_some_iff.1 hw).1;rw [List.length_eraseIdx,List.length_eraseIdx,hp.len]
 ·intro j v hv;obtain⟨k,hk,hne,he⟩:=cC hv;obtain⟨s',l',g1,g2,g3,g4,g5,g6⟩:=hp.at_ k v hk;refine⟨s',l',g1,g2,g3,g4,?_,?_⟩
  ·rw [hc]
   show (h.S.set _ _)[_]? =_
   rw [List.getElem?_set_ne]
   ·exact g5
   ·intro e;exact hne (hp.dis k i v w hk hw e.symm)
  ·rw [List.getElem?_eraseIdx]
   split
   ·rename_i h7;rw [if_pos h7] at he;subst he;exact g6
   ·rename_i h7;rw [if_neg h7] at he;subst he;exact g6
 ·intro j j' v v' hv hv' e;obtain⟨k,hk,hne,he⟩:=cC hv;obtain⟨k',hk',hne',he'⟩:=cC hv';have:=hp.dis k k' v v' hk hk' e;subst this
  split at he <;> split at he' <;> omega
def argsL (m: Nat): List Wd:=(List.range m).map fun(j: Nat)=>⟨1,(j: Int),⟨#[]⟩,false⟩
theorem cz (m: Nat):(argsL m).length=m:=by unfold argsL;simp
theorem argsL_at {m j: Nat} (h: j < m):(argsL m)[j]? =some ⟨1,(j: Int),⟨#[]⟩,false⟩:=by
 unfold argsL;rw [List.getElem?_map,List.getElem?_range h];rfl
theorem argsL_all (S: PS) (m: Nat) (h: m≤1000): allS S (argsL m)=true:=by
 unfold allS;rw [List.all_eq_true];intro w hw;obtain⟨j,hj⟩:=List.getElem?_of_mem hw;have hl:=(List.getElem?_eq_some_iff.1 hj).1;rw [cz] at hl;rw [argsL_at hl] at hj;obtain rfl:=Option.some.inj hj;unfold wordS;rw [if_pos rfl];simp;omega
theorem fun_place {h: HS} {s: ByteArray} (hs: nmB s=true) {m: Nat} (h1: 1≤m) (h2: m≤16): h.fun_ s (argsL m)=((h.place (.fn s (argsL m))).1,refW 5 (findS h.tk (m+1))):=by
 unfold HS.fun_;rw [if_neg (by rw [hs];simp),if_neg (by rw [argsL_all _ _ (by omega)];simp),if_neg (by rw [cz];omega)];dsimp only;rw [bu];simp only [PB.size,cz]
theorem SP.fun_ {h: HS} {held: List Wd} {many: List Int} (hp: SP h held many) (hO: h.Ok) {s: ByteArray} (hs: nmB s=true) {m: Nat} (h1: 1≤m) (h2: m≤16) (hr: ¬ findS h.tk (m+1) < 0): ∃(a: Nat) (h': HS),findS h.tk (m+1)=(a: Int)∧a+(m+1)≤h.tk.length∧h.fun_ s (argsL m)=(h',(⟨5,(a: Int),⟨#[]⟩,true⟩,0))∧h'.tk=fillP h.tk a (m+1) true∧h'.u=h.u+((m+1: Nat): Int)∧h'.S.length=h.S.length∧SP h' (held++ [⟨5,(a: Int),⟨#[]⟩,true⟩]) (many++ [((m+1: Nat): Int)]):=by
 rcases bH h.tk (m+1) with h3 |⟨a,h3,h4,h5⟩
 ·omega
 ·have hsz:(PB.fn s (argsL m)).size=m+1:=by simp only [PB.size,cz]
  have hpl:(h.place (.fn s (argsL m))).1=⟨h.S.set a (some (.fn s (argsL m))),fillP h.tk a (m+1) true,h.u+((m+1: Nat): Int)⟩:=by
   unfold HS.place;dsimp only;rw [hsz,if_neg hr,h3];rfl
  have hla:=hO.ltk;refine⟨a,(h.place (.fn s (argsL m))).1,h3,h4,?_,by rw [hpl],by rw [hpl],by rw [hpl];exact List.length_set,?_,?_,?_⟩
  ·rw [fun_place hs h1 h2];unfold refW;rw [if_neg hr,h3]
  ·simp [hp.len]
  ·intro i w hw
   rcases Nat.lt_or_ge i held.length with hi | hi
   ·rw [List.getElem?_append_left hi] at hw;obtain⟨s',l',g1,g2,g3,g4,g5,g6⟩:=hp.at_ i w hw;exact⟨s',l',g1,g2,g3,g4,cn hO g5,by rw [List.getElem?_append_left (by rw [← hp.len];exact hi)];exact g6⟩
   ·rw [List.getElem?_append_right hi] at hw;have hi2: i=held.length:=by
     have:=(List.getElem?_eq_some_iff.1 hw).1;simp at this;omega
    subst hi2;rw [Nat.sub_self] at hw;obtain rfl: _=w:=Option.some.inj hw;refine⟨s,argsL m,rfl,by simp,rfl,rfl,?_,?_⟩
    ·rw [hpl]
     show (h.S.set a _)[(a: Int).toNat]? =_
     rw [Int.toNat_natCast,List.getElem?_set,if_pos rfl,if_pos (by omega)]
    ·rw [List.getElem?_append_right (by rw [hp.len];exact Nat.le_refl _),hp.len,Nat.sub_self,cz];rfl
  ·have hnew: ∀(i: Nat) (w: Wd),held[i]? =some w→w.n.toNat≠a:=by
    intro i w hw e;obtain⟨s',l',g1,g2,g3,g4,g5,g6⟩:=hp.at_ i w hw;have h6:=(hO.tkn a).2 ⟨w.n.toNat,_,g5,by omega,by have:=(hO.blk _ _ g5).1.size;omega⟩;rw [h5 a (Nat.le_refl _) (by omega)] at h6
    cases h6
   intro i j w v hw hv e
   rcases Nat.lt_or_ge i held.length with hi | hi <;> rcases Nat.lt_or_ge j held.length with hj | hj
   ·rw [List.getElem?_append_left hi] at hw;rw [List.getElem?_append_left hj] at hv;exact hp.dis i j w v hw hv e
   ·rw [List.getElem?_append_left hi] at hw;rw [List.getElem?_append_right hj] at hv;have: j - held.length=0:=by
     have:=(List.getElem?_eq_some_iff.1 hv).1;simp at this;omega
    rw [this] at hv;obtain rfl: _=v:=Option.some.inj hv;exact absurd e (by simpa using hnew i w hw)
   ·rw [List.getElem?_append_right hi] at hw;rw [List.getElem?_append_left hj] at hv;have: i - held.length=0:=by
     have:=(List.getElem?_eq_some_iff.1 hw).1;simp at this;omega
    rw [this] at hw;obtain rfl: _=w:=Option.some.inj hw;exact absurd e.symm (by simpa using hnew j v hv)
   ·have h6:=(List.getElem?_eq_some_iff.1 hw).1;have h7:=(List.getElem?_eq_some_iff.1 hv).1;simp at h6 h7;omega
end Go.Vk
namespace Go.Vk.Try
open Go.RowKit
theorem dh {w0: World} {H: PHeap} (hI: Inv w0 H []) {k n: Int} (hn: 0 < n∧n≤1000000): Calls prog 11 #[(iV k),(iV n)] w0 (Rs w0 H (iV (ixZ k n))):=by
 have hS:=Step.refl hI;have hb_:=tmod_bd (k:=k) (n:=n) hn.1;refine enter [(iV k),(iV n)] func11 rfl ntmps11 rfl fun a ha=>?_;refine wp_seq (ab (Ls rfl ha fun a ha=>?_));refine wpList_nil (aa (wp_seq (ab (Lm rfl ha fun a ha=>?_))));refine Lm rfl ha fun a ha=>?_;refine lin rfl (o_rem (i:=k) (j:=n) ha rfl rfl (by omega) rfl fun a ha=>?_);refine Lm rfl ha fun a ha=>?_;refine lin rfl (aM (i:=(Int.tmod k n)) (j:=n) ha rfl rfl rfl (by omega) fun a ha=>?_);refine Lm rfl ha fun a ha=>?_;refine lin rfl (o_rem (i:=((Int.tmod k n)+n)) (j:=n) ha rfl rfl (by omega) rfl fun a ha=>?_);refine Ls rfl ha fun a ha=>?_;refine wpList_nil (aa (wp_ret (ret1 rfl ha rfl ?_)));refine⟨congrArg _ ?_,hS.plain.drop_all⟩;rfl
end Go.Vk.Try
namespace Go.Vk
open Go.RowKit
def RV (v: Value): Option (DataW Value × List MemPlace):=some (.held v, [])
def AtF (D: DataW Value) (f: Int→Option Value): Prop:= ∀ q z,D.atKey (.int .i64 q) z=match f q with
 | some v=>.held v
 | none=>z
def MapV (P: Program) (k: TypeId) (en: Ent) (b n: Nat) (f: Int→Option Value): Prop:=
 ∃ o D,en=(some b,o)∧(∀ W: World,W.heap[b]? =some o→W.ownsMap P k RV b n D)∧Maps.IsMap D∧AtF D f
def RangeV (P: Program) (k: TypeId) (em er: Ent) (b r n: Nat) (f: Int→Option Value) (left: Int→Bool) (cnt: Nat): Prop:=
 ∃ o o' D lf,em=(some b,o)∧er=(some r,o')∧(∀ W: World,W.heap[b]? =some o→W.heap[r]? =some o'→W.ranges P k RV b r n D lf cnt)∧Maps.IsMap D∧AtF D f∧∀ q,lf (.int .i64 q)=left q
def putF (f: Int→Option Value) (q: Int) (v: Value): Int→Option Value:=fun x=>if x=q then some v else f x
def delF (f: Int→Option Value) (q: Int): Int→Option Value:=fun x=>if x=q then none else f x
theorem AtF.put {D: DataW Value} {f: Int→Option Value} (hD: Maps.IsMap D) (h: AtF D f) (q: Int) (v: Value): AtF (D.put (.int .i64 q) (.held v)) (putF f q v):=by
 intro x z;unfold putF
 by_cases hx: x=q
 ·subst hx;rw [Maps.atKey_put_same hD (by simp [WideAt.IsKeyLit]),if_pos J]
 ·rw [Maps.atKey_put_other (fun e=>hx (by injection e)),h,if_neg hx]
theorem AtF.del {D: DataW Value} {f: Int→Option Value} (h: AtF D f) (q: Int): AtF (D.del (.int .i64 q)) (delF f q):=by
 intro x z;unfold delF
 by_cases hx: x=q
 ·subst hx;rw [Maps.atKey_del_same,if_pos J]
 ·rw [Maps.atKey_del_other (fun e=>hx (by injection e)),h,if_neg hx]
theorem AtF.has {D: DataW Value} {f: Int→Option Value} (h: AtF D f) (q: Int): Maps.has D (.int .i64 q)=(f q).isSome:=by
 cases hf: f q with
 | none=>exact Maps.has_false_of_atKey fun z=>by rw [h,hf]
 | some v=>exact Maps.has_true_of_atKey fun z=>by rw [h,hf]
section
variable {P: Program} {K: Act→World→Prop} {Q: Exit→Act→World→Prop} {a: Act} {w: World} {N: Nat} {m: Env} {D: List Deferred} {d: Nat} {ty: TypeId} {pos: String} {aft: Array Edge} {g: Option (Nat × Bool)}
variable {w0: World} {H0 H: PHeap} {L0 L: List Ent}
theorem owns_any {k b n: Nat} {Dm: DataW Value} (h: w.ownsMap P k RV b n Dm): ∃ es clock,w.heap[b]? =some (.map es clock)∧∀ W: World,W.heap[b]? =some (.map es clock)→W.ownsMap P k RV b n Dm:=by
 obtain⟨es,clock,hb,F,hs,hD⟩:=h;exact⟨es,clock,hb,fun W hW=>⟨es,clock,hW,F,hs,hD⟩⟩
theorem RangeV.map {k b r n cnt: Nat} {f: Int→Option Value} {left: Int→Bool} {em er: Ent} (hI: Inv w H L) {i j: Nat} (hi: L[i]? =some em) (hj: L[j]? =some er) (h: RangeV P k em er b r n f left cnt): MapV P k em b n f:=by
 obtain⟨o,o',Dm,lf,rfl,rfl,hown,hmap,hat,hlf⟩:=h;have hb: w.heap[b]? =some o:=hI.at_ i hi;have hr: w.heap[r]? =some o':=hI.at_ j hj;have h1:=(hown w hb hr).owns;obtain⟨es,clock,hb2,hany⟩:=owns_any h1;rw [hb] at hb2;injection hb2 with hb2
 subst hb2;exact⟨_,_,rfl,hany,hmap,hat⟩
end
end Go.Vk
namespace Go.Vk
open Go.RowKit
section
variable {P: Program} {K: Act→World→Prop} {Q: Exit→Act→World→Prop} {D: List Deferred} {a: Act} {w: World} {N: Nat} {m: Env} {d: Nat} {ty: TypeId} {pos: String} {aft: Array Edge} {g: Option (Nat × Bool)} {w0: World} {H0 H: PHeap} {L0 L: List Ent}
end
def timesN (t: Tm) (v: Int): Nat:=(nds t).countP fun x=>decide (x.kind=1)&&decide (x.n=v)
def moreN (t: Tm) (v: Int): Bool:=decide (1 < timesN t v)
section
variable (vars: List Wd) (mo: Int→Bool)
mutual
def bldS: Tm→HS × List Int→(HS × List Int) × Option Wd
 | .mk k n s l,st =>
  if k=1 then (st,some (if mo n then shW (vars.getD n.toNat Wd.zero) else vars.getD n.toNat Wd.zero))
  else if k=2 then (st,some ⟨1,n,⟨#[]⟩,false⟩)
  else if k=3 then (st,some ⟨2,0,s,false⟩)
  else if k=4 then (st,some ⟨3,0,s,false⟩)
  else match bldL l st with
   |(st',none)=>(st',none)
   |(st',some ws) =>
    if (st'.1.place (if k=5 then .fn s ws else .vec ws)).2 < 0 then (st',none) else (((st'.1.place (if k=5 then .fn s ws else .vec ws)).1,st'.2++ [(st'.1.place (if k=5 then .fn s ws else .vec ws)).2]),some ⟨if k=5 then 5 else 6,(st'.1.place (if k=5 then .fn s ws else .vec ws)).2,⟨#[]⟩,true⟩)
def bldL: List Tm→HS × List Int→(HS × List Int) × Option (List Wd)
 | [],st=>(st,some [])
 | t::ts,st=>match bldS t st with
  |(st',none)=>(st',none)
  |(st',some w)=>match bldL ts st' with
   |(st'',none)=>(st'',none)
   |(st'',some ws)=>(st'',some (w::ws))
end
end
section
variable {vars: List Wd} {mo: Int→Bool} {l: List Tm} {k: Nat} {st0 st: HS × List Int} {ws: List Wd} {t: Tm} {w: Wd}
theorem dY {ts: List Tm}: bldL vars mo (t::ts) st=match bldS vars mo t st with
  |(st',none)=>(st',none)
  |(st',some w)=>match bldL vars mo ts st' with
   |(st'',none)=>(st'',none)
   |(st'',some ws)=>(st'',some (w::ws)):=by rw [bldL]
def BTo (vars: List Wd) (mo: Int→Bool) (l: List Tm) (st0: HS × List Int) (k: Nat) (st: HS × List Int) (ws: List Wd): Prop:=bldL vars mo l st0=((bldL vars mo (l.drop k) st).1,(bldL vars mo (l.drop k) st).2.map (ws++ ·))
theorem BTo.zero: BTo vars mo l st0 0 st0 []:=by
 unfold BTo;rw [List.drop_zero]
 cases h:(bldL vars mo l st0).2 <;> simp [← h]
theorem BTo.step (h: BTo vars mo l st0 k st ws) (ht: l[k]? =some t) {w: Wd} (hw:(bldS vars mo t st).2=some w): BTo vars mo l st0 (k+1) (bldS vars mo t st).1 (ws++ [w]):=by
 unfold BTo at h ⊢;have h1: bldS vars mo t st=((bldS vars mo t st).1,some w):=by rw [← hw]
 rw [h,a8 ht,dY,h1];dsimp only;obtain⟨st2,o⟩:=bldL vars mo (l.drop (k+1)) (bldS vars mo t st).1
 cases o with
 | none=>rfl
 | some us=>simp
theorem BTo.fail (h: BTo vars mo l st0 k st ws) (ht: l[k]? =some t) (hw:(bldS vars mo t st).2=none): bldL vars mo l st0=((bldS vars mo t st).1,none):=by
 unfold BTo at h;have h1: bldS vars mo t st=((bldS vars mo t st).1,none):=by rw [← hw]
 rw [h,a8 ht,dY,h1];rfl
theorem BTo.done (h: BTo vars mo l st0 k st ws) (hk: l.length≤k): bldL vars mo l st0=(st,some ws):=by
 unfold BTo at h;rw [h,List.drop_of_length_le hk,bldL];simp
end
section
variable {vars: List Wd} {mo: Int→Bool} {k n: Int} {s: ByteArray} {l: List Tm} {st st': HS × List Int} {ws: List Wd}
end
def BOK (vars: List Wd) (mo: Int→Bool) (f: Int→Option Value) (t: Tm): Prop:= ∀ x ∈ nds t,(x.kind=1→(0≤x.n∧x.n < vars.length)∧f x.n=some (.bool (mo x.n)))∧x.l.length≤64
theorem BOK.sub {vars: List Wd} {mo: Int→Bool} {f: Int→Option Value} {t u: Tm} {j: Nat} (h: BOK vars mo f t) (hu: t.l[j]? =some u): BOK vars mo f u:=fun x hx=>h x (by rw [nds_eq,ndsL_split hu];simp [hx])
def HS.build (h: HS) (t: Tm) (vars: List Wd): HS ×(Wd × Int):=
 if isTm t=false then (h,(Wd.zero,3)) else if allS h.S vars=false then (h,(Wd.zero,211)) else if (varsN [t]).any (fun v=>decide ((vars.length: Int)≤v)) then (h,(Wd.zero,1)) else
 match bldS vars (moreN t) t (h, []) with
 |(st,none)=>(st.2.foldl (fun g a=>g.clear a.toNat) st.1,(Wd.zero,210))
 |(st,some w)=>(st.1,(w,0))
end Go.Vk
namespace Go.Vk
open Go.RowKit
mutual
theorem isR_nds: ∀ t: Tm,isR t=true→∀ x ∈ nds t,isR x=true
 | .mk k n s l,h,x,hx=>by
  rw [nds] at hx
  rcases List.mem_cons.1 hx with rfl | hx
  ·exact h
  ·exact isR_ndsL l (fun u hu=>isR_sub h hu) x hx
theorem isR_ndsL: ∀ ts: List Tm,(∀ u ∈ ts,isR u=true)→∀ x ∈ ndsL ts,isR x=true
 | [],_,x,hx=>by cases hx
 | t::ts,h,x,hx=>by
  rw [ndsL] at hx
  rcases List.mem_append.1 hx with hx | hx
  ·exact isR_nds t (h t List.mem_cons_self) x hx
  ·exact isR_ndsL ts (fun u hu=>h u (List.mem_cons_of_mem _ hu)) x hx
end
theorem isTm_nodes {t: Tm} (h: isTm t=true): ∀ x ∈ nds t,nodeR x=true:=fun x hx=>eR (isR_nds t (by rw [← isTm_isR];exact h) x hx)
section
variable {P: Program} {a: Act} {w w0: World} {H0 H: PHeap} {L0 L: List Ent} {N: Nat} {m: Env} {R: Ending→World→Prop}
end
end Go.Vk
namespace Go.Vk
open Go.RowKit
structure MO (h: HS) (mk: List Int): Prop where
 ok: h.Ok
 at_: ∀ a ∈ mk,0≤a∧∃ b,h.S[a.toNat]? =some (some b)
 nd: mk.Nodup
theorem MO.nil {h: HS} (hO: h.Ok): MO h []:=⟨hO,(fun a ha=>by cases ha),List.nodup_nil⟩
theorem MO.place {h: HS} {mk: List Int} (hm: MO h mk) {b: PB} (hb: b.ok) (hp: ¬(h.place b).2 < 0): MO (h.place b).1 (mk++ [(h.place b).2]):=by
 have ho:=hm.ok.place hb;rw [bu] at hp ⊢
 rcases bH h.tk b.size with h1 |⟨p,h1,h2,h3⟩
 ·omega
 ·have hs:=hb.size;have hl:=hm.ok.ltk;have hS:(h.place b).1.S=h.S.set p (some b):=by
   unfold HS.place;dsimp only;rw [if_neg hp,h1];rfl
  have hnew: ∀(c: PB),h.S[p]?≠some (some c):=by
   intro c hc;have h4:=(hm.ok.tkn p).2 ⟨p,c,hc,Nat.le_refl _,by have:=(hm.ok.blk p c hc).1.size;omega⟩;rw [h3 p (Nat.le_refl _) (by omega)] at h4
   cases h4
  rw [h1];refine⟨ho,fun a ha=>?_,?_⟩
  ·rcases List.mem_append.1 ha with ha | ha
   ·obtain⟨h4,c,h5⟩:=hm.at_ a ha;exact⟨h4,c,cn hm.ok h5⟩
   ·rw [List.mem_singleton.1 ha];exact⟨by omega,b,by rw [hS,Int.toNat_natCast,List.getElem?_set,if_pos rfl,if_pos (by omega)]⟩
  ·rw [List.nodup_append];refine⟨hm.nd,by simp,fun a ha c hc e=>?_⟩;rw [List.mem_singleton.1 hc] at e;obtain⟨_,d,h5⟩:=hm.at_ a ha;rw [e,Int.toNat_natCast] at h5;exact hnew d h5
theorem MO.clear {h: HS} {a: Int} {mk: List Int} (hm: MO h (a::mk)): MO (h.clear a.toNat) mk:=by
 obtain⟨h0,b,hb⟩:=hm.at_ a List.mem_cons_self;have hnd:=List.nodup_cons.1 hm.nd;have hg: h.S.getD a.toNat none=some b:=by rw [List.getD_eq_getElem?_getD,hb];rfl
 refine⟨hm.ok.clear _,fun c hc=>?_,hnd.2⟩;obtain⟨h1,d,hd⟩:=hm.at_ c (List.mem_cons_of_mem _ hc);refine⟨h1,d,?_⟩;unfold HS.clear;rw [hg]
 show (h.S.set _ _)[_]? =_
 rw [List.getElem?_set_ne]
 ·exact hd
 ·intro e;have: a=c:=by omega
  subst this;exact hnd.1 hc
mutual
theorem bldS_MO {vars: List Wd} {mo: Int→Bool}: ∀(t: Tm) (h: HS) (mk: List Int),(∀ x ∈ nds t,x.l.length≤64)→MO h mk→MO (bldS vars mo t (h,mk)).1.1 (bldS vars mo t (h,mk)).1.2
 | .mk k n s l,h,mk,hn,hm=>by
  have hl:=bldL_MO (vars:=vars) (mo:=mo) l h mk (fun x hx=>hn x (by rw [nds];exact List.mem_cons_of_mem _ hx)) hm;rw [bldS]
  split
  ·exact hm
  ·split
   ·exact hm
   ·split
    ·exact hm
    ·split
     ·exact hm
     ·split
      ·rename_i st' h1;rw [h1] at hl;exact hl.1
      ·rename_i st' ws h1
       rw [h1] at hl;have hw: ws.length≤64:=by rw [hl.2 ws rfl];exact hn (.mk k n s l) (by rw [nds];exact List.mem_cons_self)
       by_cases hp:(st'.1.place (if k=5 then PB.fn s ws else PB.vec ws)).2 < 0
       ·rw [if_pos hp];exact hl.1
       ·rw [if_neg hp];refine hl.1.place ?_ hp
        split
        ·exact hw
        ·exact hw
theorem bldL_MO {vars: List Wd} {mo: Int→Bool}: ∀(ts: List Tm) (h: HS) (mk: List Int),(∀ x ∈ ndsL ts,x.l.length≤64)→MO h mk→MO (bldL vars mo ts (h,mk)).1.1 (bldL vars mo ts (h,mk)).1.2∧∀ ws,(bldL vars mo ts (h,mk)).2=some ws→ws.length=ts.length
 | [],h,mk,_,hm=>by
  rw [bldL];exact⟨hm,fun ws hw=>by obtain rfl:=Option.some.inj hw;rfl⟩
 | t::ts,h,mk,hn,hm=>by
  have h1:=bldS_MO (vars:=vars) (mo:=mo) t h mk (fun x hx=>hn x (by rw [ndsL];exact List.mem_append_left _ hx)) hm;rw [dY]
  split
  ·rename_i st' e;rw [e] at h1;exact⟨h1,fun ws hw=>by cases hw⟩
  ·rename_i st' w e
   rw [e] at h1;have h2:=bldL_MO (vars:=vars) (mo:=mo) ts st'.1 st'.2 (fun x hx=>hn x (by rw [ndsL];exact List.mem_append_right _ hx)) h1
   split
   ·rename_i e2;rw [e2] at h2;exact⟨h2.1,fun ws hw=>by cases hw⟩
   ·rename_i e2
    rw [e2] at h2;exact⟨h2.1,fun ws hw=>by obtain rfl:=Option.some.inj hw;rw [List.length_cons,List.length_cons,h2.2 _ rfl]⟩
end
theorem HS.Ok.build {h: HS} (hO: h.Ok) (t: Tm) (vars: List Wd):(h.build t vars).1.Ok:=by
 unfold HS.build
 split
 ·exact hO
 ·rename_i h1
  have ht: isTm t=true:=by simpa using h1
  have hm:=bldS_MO (vars:=vars) (mo:=moreN t) t h [] (fun x hx=>nodeR_len (isTm_nodes ht x hx)) (MO.nil hO)
  split
  ·exact hO
  ·split
   ·exact hO
   ·split
    ·rename_i st e
     rw [e] at hm;have key: ∀(mk: List Int) (g: HS),g.Ok→(mk.foldl (fun g a=>g.clear a.toNat) g).Ok:=by
      intro mk
      induction mk with
      | nil=>intro g hg;exact hg
      | cons a mk ih=>intro g hg;exact ih _ (hg.clear _)
     exact key st.2 st.1 hm.ok
    ·rename_i st w e
     rw [e] at hm;exact hm.ok
end Go.Vk
namespace Go.Vk
open Go.RowKit
structure Ext (S S': PS): Prop where
 len: S'.length=S.length
 keep: ∀(j: Nat) (b: PB),S[j]? =some (some b)→S'[j]? =some (some b)
theorem Ext.refl (S: PS): Ext S S:=⟨rfl,fun _ _ h=>h⟩
theorem Ext.trans {S S' S'': PS} (h: Ext S S') (h': Ext S' S''): Ext S S'':=⟨h'.len.trans h.len,fun j b hj=>h'.keep j b (h.keep j b hj)⟩
theorem Ext.at_ {S S': PS} (h: Ext S S') {w: Wd} {b: PB} (hw: atS S w=some b): atS S' w=some b:=by
 obtain⟨h1,h2,h3,h4,h5⟩:=az hw;exact(cl h1 (by rw [h.len];exact h2) h3 (h.keep _ _ h4)).trans (if_pos h5)
theorem atS_lit {S: PS} {w: Wd} (h: w.tag=1∨w.tag=2∨w.tag=3): atS S w=none:=by
 unfold atS atG
 split
 ·rfl
 ·split
  ·rename_i b hb
   rw [if_neg]
   cases b <;> simp only [PB.tag] <;> omega
  ·rfl
def Firm (S: PS) (w: Wd): Prop:=(w.tag=1∨w.tag=2∨w.tag=3)∨∃ b,atS S w=some b
theorem fol_ext {S S': PS} (h: Ext S S'): ∀(k: Nat) (w x: Wd),folS S k w=(x,true)→Firm S x→folS S' k w=(x,true)
 | 0,w,x,hf,_=>by simp [folS] at hf
 | k+1,w,x,hf,hx=>by
  unfold folS at hf ⊢
  cases ha: atS S w with
  | none =>
   rw [ha] at hf;obtain rfl: w=x:=congrArg Prod.fst hf
   rcases hx with hx |⟨b,hb⟩
   ·rw [atS_lit hx]
   ·rw [ha] at hb;cases hb
  | some b =>
   rw [ha] at hf;rw [h.at_ ha]
   match b,hf with
   | .var (y::ys) hk,hf=>exact fol_ext h k _ _ hf hx
   | .var [] hk,hf=>exact hf
   | .fn s l,hf=>exact hf
   | .vec l,hf=>exact hf
theorem fm {f g: Int→Wd→Int × Option Tm} (hfg: ∀ left w T r,f left w=(r,some T)→g left w=(r,some T)): ∀(ws: List Wd) (left r: Int) (Ts: List Tm),rdL f left ws=(r,some Ts)→rdL g left ws=(r,some Ts)
 | [],left,r,Ts,h=>h
 | w::ws,left,r,Ts,h=>by
  rw [rdL] at h ⊢;dsimp only at h ⊢
  cases hf: f left w with
  | mk r1 o =>
   rw [hf] at h
   cases o with
   | none=>cases h
   | some T =>
    rw [hfg _ _ _ _ hf];dsimp only at h ⊢
    cases hl: rdL f r1 ws with
    | mk r2 o2 =>
     rw [hl] at h
     cases o2 with
     | none=>simp at h
     | some Us =>
      rw [fm hfg ws _ _ _ hl];exact h
theorem fC {S S': PS} (h: Ext S S'): ∀(d: Nat) (left: Int) (w: Wd) (T: Tm) (r: Int),rdS S d left w=(r,some T)→rdS S' d left w=(r,some T)
 | 0,left,w,T,r,hr=>by simp [rdS] at hr
 | d+1,left,w,T,r,hr=>by
  by_cases hs:(followS S w).2=false∨left - 1 < 0
  ·rw [eG (by rcases hs with h | h;exact .inl h;exact .inr (.inl h))] at hr;cases hr
  ·have hf:(followS S w).2=true:=by
    cases hh:(followS S w).2 with
    | true=>rfl
    | false=>exact absurd (.inl hh) hs
   have hl: 0≤left - 1:=Classical.byContradiction fun e=>hs (.inr (by omega));have firm: ∀(hx: Firm S (followS S w).1),followS S' w=followS S w:=by
    intro hx;have h1: folS S (S.length+1) w=((followS S w).1,true):=by
     rw [← hf];rfl
    have h2:=fol_ext h _ _ _ h1 hx
    show folS S' (S'.length+1) w=_
    rw [h.len,h2,← hf]
   by_cases h1:(followS S w).1.tag=1
   ·have he:=firm (.inl (.inl h1));rw [eq hf hl h1] at hr;rw [eq (by rw [he];exact hf) hl (by rw [he];exact h1),he];exact hr
   ·by_cases h2:(followS S w).1.tag=2
    ·have he:=firm (.inl (.inr (.inl h2)));rw [dH hf hl h1 h2] at hr;rw [dH (by rw [he];exact hf) hl (by rw [he];exact h1) (by rw [he];exact h2),he];exact hr
    ·by_cases h3:(followS S w).1.tag=3
     ·have he:=firm (.inl (.inr (.inr h3)));rw [ex hf hl h1 h2 h3] at hr;rw [ex (by rw [he];exact hf) hl (by rw [he];exact h1) (by rw [he];exact h2) (by rw [he];exact h3),he];exact hr
     ·rw [bO hf hl h1 h2 h3] at hr
      cases ha: atS S (followS S w).1 with
      | none=>rw [ha] at hr;cases hr
      | some b =>
       have he:=firm (.inr ⟨b,ha⟩);rw [bO (by rw [he];exact hf) hl (by rw [he];exact h1) (by rw [he];exact h2) (by rw [he];exact h3),he,h.at_ ha];rw [ha] at hr
       match b,hr with
       | .var to hk,hr=>exact hr
       | .fn s ws,hr =>
        dsimp only at hr ⊢
        cases hq: rdL (rdS S d) (left - 1) ws with
        | mk r2 o =>
         rw [hq] at hr
         cases o with
         | none=>simp at hr
         | some Ts=>rw [fm (fun left w T r hh=>fC h d left w T r hh) ws _ _ _ hq];exact hr
       | .vec ws,hr =>
        dsimp only at hr ⊢
        cases hq: rdL (rdS S d) (left - 1) ws with
        | mk r2 o =>
         rw [hq] at hr
         cases o with
         | none=>simp at hr
         | some Ts=>rw [fm (fun left w T r hh=>fC h d left w T r hh) ws _ _ _ hq];exact hr
def RdW (S: PS) (w: Wd) (T: Tm): Prop:= ∀(d: Nat) (left: Int),dep T≤d→(T.sz: Int)≤left→rdS S d left w=(left - T.sz,some T)
theorem RdW.ext {S S': PS} {w: Wd} {T: Tm} (h: RdW S w T) (he: Ext S S'): RdW S' w T:=fun d left h1 h2=>fC he _ _ _ _ _ (h d left h1 h2)
def RdWs (S: PS): List Wd→List Tm→Prop
 | [], []=>True
 | w::ws,T::Ts=>RdW S w T∧RdWs S ws Ts
 | _,_=>False
theorem RdWs.ext {S S': PS} (he: Ext S S'): ∀ {ws: List Wd} {Ts: List Tm},RdWs S ws Ts→RdWs S' ws Ts
 | [], [],_=>trivial
 | w::ws,T::Ts,h=>⟨h.1.ext he,RdWs.ext he h.2⟩
 | [],_::_,h=>h.elim
 | _::_, [],h=>h.elim
theorem RdWs.read {S: PS} {d: Nat}: ∀ {ws: List Wd} {Ts: List Tm} (left: Int),RdWs S ws Ts→depL Ts≤d→(Tm.szL Ts: Int)≤left→rdL (rdS S d) left ws=(left - Tm.szL Ts,some Ts)
 | [], [],left,_,_,_=>by rw [rdL,Tm.szL];simp
 | w::ws,T::Ts,left,h,hd,hl=>by
  rw [depL] at hd;rw [Tm.szL] at hl ⊢;have h1:=h.1 d left (by omega) (by omega);have h2:=RdWs.read (d:=d) (left - T.sz) h.2 (by omega) (by omega);rw [rdL,h1];dsimp only;rw [h2];simp only [Option.map_some]
  congr 1
  omega
 | [],_::_,_,h,_,_=>h.elim
 | _::_, [],_,h,_,_=>h.elim
theorem sz_mk (k n: Int) (s: ByteArray) (l: List Tm):(Tm.mk k n s l).sz=1+Tm.szL l:=by rw [Tm.sz]
theorem dep_mk (k n: Int) (s: ByteArray) (l: List Tm): dep (.mk k n s l)=depL l+1:=by rw [dep]
theorem RdW.blk {S: PS} {w: Wd} {b: PB} {T: Tm} {ws: List Wd} {Ts: List Tm} (ha: atS S w=some b) (hr: RdWs S ws Ts) (hb:(∃ s,b=.fn s ws∧T=.mk 5 0 s Ts)∨(b=.vec ws∧T=.mk 6 0 ⟨#[]⟩ Ts)): RdW S w T:=by
 have hf: followS S w=(w,true):=by
  unfold followS folS;rw [ha]
  rcases hb with ⟨s,rfl,_⟩ |⟨rfl,_⟩ <;> rfl
 have htag: w.tag=b.tag:=(az ha).2.2.2.2;have ht: 4 < w.tag:=by
  rw [htag]
  rcases hb with ⟨s,rfl,_⟩ |⟨rfl,_⟩ <;> simp [PB.tag]
 intro d left h1 h2;have hs: T.sz=1+Tm.szL Ts:=by rcases hb with ⟨s,_,rfl⟩ |⟨_,rfl⟩ <;> exact sz_mk _ _ _ _
 have hdp: dep T=depL Ts+1:=by rcases hb with ⟨s,_,rfl⟩ |⟨_,rfl⟩ <;> exact dep_mk _ _ _ _
 obtain⟨d',rfl⟩: ∃ d',d=d'+1:=⟨d - 1,by omega⟩;rw [bO (by rw [hf]) (by omega) (by rw [hf];show ¬ w.tag=1;omega) (by rw [hf];show ¬ w.tag=2;omega) (by rw [hf];show ¬ w.tag=3;omega),hf];dsimp only;rw [ha];have hl:=hr.read (d:=d') (left - 1) (by omega) (by omega)
 rcases hb with ⟨s,rfl,rfl⟩ |⟨rfl,rfl⟩
 ·dsimp only;rw [hl,hs];simp only [Option.map_some]
  congr 1
  omega
 ·dsimp only;rw [hl,hs];simp only [Option.map_some]
  congr 1
  omega
def VarW (S: PS) (w: Wd): Prop:= ∃ hk,atS S w=some (.var [] hk)
theorem VarW.ext {S S': PS} {w: Wd} (h: VarW S w) (he: Ext S S'): VarW S' w:=by
 obtain⟨hk,h⟩:=h;exact⟨hk,he.at_ h⟩
theorem VarW.read {S: PS} {w: Wd} (h: VarW S w): RdW S w (.mk 1 w.n ⟨#[]⟩ []):=by
 obtain⟨hk,ha⟩:=h;have hf: followS S w=(w,true):=by
  unfold followS folS;rw [ha]
 have ht: w.tag=4:=(az ha).2.2.2.2;intro d left h1 h2;rw [dep_mk] at h1;rw [sz_mk] at h2 ⊢;rw [Tm.szL] at h2 ⊢;obtain⟨d',rfl⟩: ∃ d',d=d'+1:=⟨d - 1,by omega⟩;rw [bO (by rw [hf]) (by omega) (by rw [hf];show ¬ w.tag=1;omega) (by rw [hf];show ¬ w.tag=2;omega) (by rw [hf];show ¬ w.tag=3;omega),hf];dsimp only;rw [ha];rfl
section
variable (vars: List Wd)
end
def EOk (e: Option Nat) (S: PS): Prop:= ∀ j,e=some j→∃ b,S[j]? =some (some b)
theorem EOk.ext {e: Option Nat} {S S': PS} (h: EOk e S) (hx: Ext S S'): EOk e S':=fun j hj=>by
 obtain⟨b,hb⟩:=h j hj;exact⟨b,hx.keep _ _ hb⟩
theorem place_ext {h: HS} (hO: h.Ok) (b: PB): Ext h.S (h.place b).1.S:=by
 refine⟨?_,fun j c hj=>cn hO hj⟩;unfold HS.place;dsimp only
 split
 ·rfl
 ·exact List.length_set
theorem dp {h: HS} (hO: h.Ok) {b: PB} (hb: b.ok) (hp: ¬(h.place b).2 < 0):(h.place b).1.S[(h.place b).2.toNat]? =some (some b)∧0≤(h.place b).2∧∀ c,h.S[(h.place b).2.toNat]?≠some (some c):=by
 have hp2:=hp;rw [bu] at hp2 ⊢
 rcases bH h.tk b.size with h1 |⟨q,h1,h2,h3⟩
 ·omega
 ·have hs:=hb.size;have hl: h.tk.length=h.S.length:=hO.ltk;refine⟨?_,by omega,fun c hc=>?_⟩
  ·unfold HS.place;dsimp only;rw [if_neg hp2]
   show (List.set _ _ _)[_]? =_
   rw [List.getElem?_set,if_pos rfl,if_pos (by rw [h1];omega)]
  ·rw [h1,Int.toNat_natCast] at hc;have h4:=(hO.tkn q).2 ⟨q,c,hc,Nat.le_refl _,by have:=(hO.blk q c hc).1.size;omega⟩;rw [h3 q (Nat.le_refl _) (by omega)] at h4
   cases h4
theorem VarW.word {S: PS} {w: Wd} (h: VarW S w): wordS S w=true:=by
 obtain⟨hk,h⟩:=h;have ht: w.tag=4:=(az h).2.2.2.2;unfold wordS;rw [if_neg (by omega),if_neg (by omega),if_neg (by omega),h];unfold refB;rw [ht];rfl
theorem cy {S: PS} {w: Wd} {b: PB} (h: atS S w=some b): wordS S w=true:=by
 have ht:=(az h).2.2.2.2;have h4: w.tag=4∨w.tag=5∨w.tag=6:=by rw [ht];cases b <;> simp [PB.tag]
 unfold wordS;rw [if_neg (by omega),if_neg (by omega),if_neg (by omega),h];unfold refB
 rcases h4 with h4 | h4 | h4 <;> rw [h4] <;> rfl
structure Made (S: PS) (t: Tm) (w: Wd) (T: Tm): Prop where
 rd: RdW S w T
 word: wordS S w=true
 tag: t.kind=1∨¬ w.tag=4
end Go.Vk
namespace Go.Vk
open Go.RowKit
def runT (a b: Nat): List Bool:=List.replicate a true++List.replicate b false
theorem runT_len (a b: Nat):(runT a b).length=a+b:=by unfold runT;simp
theorem runT_free {a b j: Nat} (h: a≤j) (hj: j < a+b):(runT a b)[j]? =some false:=by
 unfold runT;rw [List.getElem?_append_right (by simpa using h),List.getElem?_replicate,if_pos (by simp;omega)]
theorem runT_taken {a b j: Nat} (h: j < a):(runT a b)[j]? =some true:=by
 unfold runT;rw [List.getElem?_append_left (by simpa using h),List.getElem?_replicate,if_pos h]
theorem findS_run {a b size: Nat} (h1: 1≤size) (h: size≤b): findS (runT a b) size=(a: Int):=by
 obtain⟨p,h2,h3⟩:=d5 (tk:=runT a b) (size:=size) (q:=a) (by rw [runT_len];omega) (fun j h4 h5=>runT_free h4 (by omega)) ((runT a b).length+1) 0 (by omega) (by omega)
 rcases bH (runT a b) size with h4 |⟨p',h4,h5,h6⟩
 ·unfold findS at h4;omega
 ·have h7: p'=p:=by unfold findS at h4;omega
  subst h7;have h8: ¬ p' < a:=fun hc=>by
   have:=h6 p' (Nat.le_refl _) (by omega);rw [runT_taken hc] at this
   cases this
  rw [h4,show p'=a by omega]
theorem fill_run {a b n: Nat} (h: n≤b): fillP (runT a b) a n true=runT (a+n) (b - n):=by
 unfold fillP runT;rw [List.take_left' (by simp),List.drop_append,List.drop_of_length_le (by simp),List.nil_append,List.length_replicate,List.drop_replicate,List.replicate_append_replicate,show b - (a+n - a)=b - n by omega]
end Go.Vk
namespace Go.Vk
end Go.Vk
namespace Go.Vk
end Go.Vk
namespace Go.Vk
theorem var_run {h: HS} {a b: Nat} (htk: h.tk=runT a b) (hb: 1≤b): h.var=(⟨h.S.set a (some (.var [] [])),runT (a+1) (b - 1),h.u+1⟩,(⟨4,(a: Int),⟨#[]⟩,true⟩,0)):=by
 have hf: findS h.tk (PB.var [] []).size=(a: Int):=by rw [htk];exact findS_run (by simp only [PB.size];omega) (by simp only [PB.size];omega)
 unfold HS.var HS.place refW;dsimp only;rw [hf,if_neg (by omega)];dsimp only;rw [if_neg (by omega),Int.toNat_natCast,htk];simp only [PB.size];rw [fill_run hb];rfl
theorem d6 {l gs: List Int} {k: Nat} {g: Int} (h: gs[k]? =some g): addG l (gs.drop k)=addG (if l.contains g then l else l++ [g]) (gs.drop (k+1)):=by
 rw [a8 h,addG]
end Go.Vk
namespace Go.Vk
section
variable (B: List Tm)
end
def VT (u: Tm): Prop:= ∃ j: Int,u=.mk 1 j ⟨#[]⟩ []∧0≤j∧j < 100000
theorem VT.sz {u: Tm} (h: VT u): u.sz=1:=by obtain⟨j,rfl,_⟩:=h;rw [Tm.sz,Tm.szL]
theorem VT.free {u: Tm} (h: VT u): freeB u=false:=by obtain⟨j,rfl,_⟩:=h;rfl
theorem VT.at_ {B: List Tm} (h: ∀ u ∈ B,VT u) {k: Nat} {u: Tm} (hk: B[k]? =some u): VT u:=h u (List.mem_of_getElem? hk)
def szAt (S: PS) (a: Int): Int:=
 match S.getD a.toNat none with
 | some b=>b.size
 | none=>0
theorem da {S: PS} {a: Int} {b: PB} (h: S[a.toNat]? =some (some b)): szAt S a=b.size:=by
 unfold szAt;rw [List.getD_eq_getElem?_getD,h];rfl
def MU (h: HS) (mk: List Int) (u0: Int): Prop:=h.u=u0+(mk.map (szAt h.S)).sum
theorem MU.place {h: HS} {mk: List Int} {u0: Int} (hm: MO h mk) (hu: MU h mk u0) {b: PB} (hb: b.ok) (hp: ¬(h.place b).2 < 0): MU (h.place b).1 (mk++ [(h.place b).2]) u0:=by
 obtain⟨h1,h2,h3⟩:=dp hm.ok hb hp;have hold: mk.map (szAt (h.place b).1.S)=mk.map (szAt h.S):=List.map_congr_left fun a ha=>by
  obtain⟨h4,c,h5⟩:=hm.at_ a ha;rw [da (cn hm.ok h5),da h5]
 have hu':(h.place b).1.u=h.u+b.size:=by
  rw [bu] at hp;unfold HS.place;dsimp only;rw [if_neg hp]
 unfold MU at hu ⊢;rw [List.map_append,List.sum_append,hold,hu',hu,List.map_cons,List.map_nil,List.sum_cons,List.sum_nil,da h1];omega
theorem MU.clear {h: HS} {a: Int} {mk: List Int} {u0: Int} (hm: MO h (a::mk)) (hu: MU h (a::mk) u0): MU (h.clear a.toNat) mk u0:=by
 obtain⟨h0,b,hb⟩:=hm.at_ a List.mem_cons_self;have hnd:=List.nodup_cons.1 hm.nd;have hg: h.S.getD a.toNat none=some b:=by rw [List.getD_eq_getElem?_getD,hb];rfl
 have hc: h.clear a.toNat=⟨h.S.set a.toNat none,fillP h.tk a.toNat b.size false,h.u - b.size⟩:=by
  unfold HS.clear;rw [hg]
 have hold: mk.map (szAt (h.clear a.toNat).S)=mk.map (szAt h.S):=List.map_congr_left fun x hx=>by
  obtain⟨h4,c,h5⟩:=hm.at_ x (List.mem_cons_of_mem _ hx);have hne: a.toNat≠x.toNat:=fun e=>hnd.1 (by rw [show a=x by omega];exact hx);rw [hc];rw [da (b:=c) (by show (h.S.set a.toNat none)[x.toNat]? =_;rw [List.getElem?_set_ne hne];exact h5),da h5]
 unfold MU at hu ⊢;rw [hold,hc];rw [List.map_cons,List.sum_cons,da hb] at hu
 show h.u - b.size=_
 omega
structure VS (h: HS) (n k: Nat): Prop where
 ok: h.Ok
 le: k≤n
 tk: h.tk=runT k (n - k)
 at_: ∀ j,j < k→h.S[j]? =some (some (.var [] []))
theorem VS.new {n: Nat} (h: n≤65536): VS (HS.new n) n 0:=⟨HS.Ok.new h,Nat.zero_le _,(List.nil_append _).symm,fun j hj=>by omega⟩
theorem VS.var {h: HS} {n k: Nat} (hv: VS h n k) (hk: k < n): ∃ h',h.var=(h',(⟨4,(k: Int),⟨#[]⟩,true⟩,0))∧VS h' n (k+1):=by
 have e:=var_run hv.tk (by omega);have hO:=hv.ok.var;rw [e] at hO;have hlen: h.S.length=n:=by
  have h1:=hv.ok.ltk;rw [hv.tk,runT_len] at h1;have:=hv.le;omega
 refine⟨_,e,hO,by omega,by show runT (k+1) (n - k - 1)=_;congr 1,fun j hj=>?_⟩
 show (h.S.set k (some (.var [] [])))[j]? =_
 rw [List.getElem?_set]
 split
 ·rename_i e
  rw [if_pos (by omega)]
 ·exact hv.at_ j (by omega)
end Go.Vk
namespace Go.Vk
def wdsO: Option PB→List Wd
 | some b=>b.words
 | none=> []
def refsOf (S: PS): List Wd:=S.flatMap wdsO
theorem cd (o: Option PB) (S: PS): refsOf (o::S)=wdsO o++refsOf S:=by simp [refsOf]
theorem bC: ∀ {S: PS} {j: Nat} {o: Option PB},S[j]? =some o→(refsOf S).Perm (wdsO o++refsOf (S.set j none))
 | [],j,o,h=>by simp at h
 | x::S,0,o,h=>by
  obtain rfl: x=o:=by simpa using h
  rw [List.set_cons_zero,cd,cd];exact List.Perm.refl _
 | x::S,j+1,o,h=>by
  have ih:=bC (S:=S) (j:=j) (o:=o) (by simpa using h);rw [List.set_cons_succ,cd,cd];refine(List.Perm.append_left _ ih).trans ?_;rw [← List.append_assoc,← List.append_assoc];exact List.perm_append_comm.append_right _
theorem cH {S: PS} {j: Nat} (o: Option PB) (h: j < S.length):(refsOf (S.set j o)).Perm (wdsO o++refsOf (S.set j none)):=by
 have:=bC (S:=S.set j o) (j:=j) (o:=o) (by rw [List.getElem?_set,if_pos rfl,if_pos h])
 rwa [List.set_set] at this
theorem refsOf_mem {S: PS} {w: Wd}: w ∈ refsOf S↔∃(j: Nat) (b: PB),S[j]? =some (some b)∧w ∈ b.words:=by
 unfold refsOf;rw [List.mem_flatMap]
 constructor
 ·rintro⟨o,h1,h2⟩
  cases o with
  | none=>cases h2
  | some b=>obtain ⟨j,hj⟩:=List.getElem?_of_mem h1;exact⟨j,b,hj,h2⟩
 ·rintro⟨j,b,h1,h2⟩;exact⟨some b,List.mem_of_getElem? h1,h2⟩
def Sep (x y: Wd): Prop:=refB x=true→refB y=true→x.n=y.n→x.one=false∧y.one=false
theorem Sep.symm {x y: Wd} (h: Sep x y): Sep y x:=fun h1 h2 h3=>(h h2 h1 h3.symm).symm
theorem bU {l l': List Wd} (hp: l.Perm l') (h: l.Pairwise Sep): l'.Pairwise Sep:=(List.Perm.pairwise_iff (fun h=>Sep.symm h) hp).1 h
theorem sep_sh {x y: Wd} (h: Sep x y): Sep (shW x) y:=fun h1 h2 h3=>⟨rfl,(h h1 h2 h3).2⟩
theorem sep_lit {x y: Wd} (h: refB x=false): Sep x y:=fun h1=>by rw [h] at h1;cases h1
theorem pw_share {w: Wd} {l: List Wd} (h:(w::l).Pairwise Sep):(shW w::shW w::l).Pairwise Sep:=by
 rw [List.pairwise_cons] at h;rw [List.pairwise_cons,List.pairwise_cons];refine⟨fun y hy=>?_,fun y hy=>sep_sh (h.1 y hy),h.2⟩
 rcases List.mem_cons.1 hy with rfl | hy
 ·exact fun _ _ _=>⟨rfl,rfl⟩
 ·exact sep_sh (h.1 y hy)
theorem pw_shall: ∀ {xs l: List Wd},(xs++l).Pairwise Sep→(xs.map shW++(xs.map shW++l)).Pairwise Sep
 | [],l,h=>h
 | x::xs,l,h=>by
  have h1:(xs++(x::l)).Pairwise Sep:=bU List.perm_middle.symm h;have h2:=pw_shall h1;have h3:(x::(xs.map shW++(xs.map shW++l))).Pairwise Sep:=by
   refine bU ?_ h2;rw [← List.append_assoc,← List.append_assoc];exact List.perm_middle
  have h4:=pw_share h3;refine bU ?_ h4;rw [List.map_cons,List.cons_append,List.cons_append];refine List.Perm.cons _ ?_;exact List.perm_middle.symm
theorem dU {S S': PS} {w: Wd} (h: ∀ b,atS S w=some b→∃ b',atS S' w=some b') (hw: wordS S w=true): wordS S' w=true:=by
 unfold wordS at hw ⊢
 by_cases h1: w.tag=1
 ·rw [if_pos h1] at hw ⊢;exact hw
 ·rw [if_neg h1] at hw ⊢
  by_cases h2: w.tag=2
  ·rw [if_pos h2] at hw ⊢;exact hw
  ·rw [if_neg h2] at hw ⊢
   by_cases h3: w.tag=3
   ·rw [if_pos h3] at hw ⊢;exact hw
   ·rw [if_neg h3] at hw ⊢;rw [Bool.and_eq_true] at hw ⊢;obtain⟨b,hb⟩:=Option.isSome_iff_exists.1 hw.2;obtain⟨b',hb'⟩:=h b hb;exact⟨hw.1,by rw [hb'];rfl⟩
theorem eI {S S': PS} {w: Wd} (h: Ext S S') (hw: wordS S w=true): wordS S' w=true:=dU (fun b hb=>⟨b,h.at_ hb⟩) hw
theorem fv {S: PS} {w: Wd} (hw: wordS S w=true): wordS S (shW w)=true:=by
 unfold wordS at hw ⊢;have e: atS S (shW w)=atS S w:=rfl
 by_cases h1: w.tag=1
 ·rw [if_pos h1] at hw;rw [if_pos (show (shW w).tag=1 from h1)];simp only [Bool.and_eq_true] at hw ⊢;exact⟨⟨⟨hw.1.1.1,rfl⟩,hw.1.2⟩,hw.2⟩
 ·rw [if_neg h1] at hw;rw [if_neg (show ¬(shW w).tag=1 from h1)]
  by_cases h2: w.tag=2
  ·rw [if_pos h2] at hw;rw [if_pos (show (shW w).tag=2 from h2)];simp only [Bool.and_eq_true] at hw ⊢;exact⟨⟨hw.1.1,rfl⟩,hw.2⟩
  ·rw [if_neg h2] at hw;rw [if_neg (show ¬(shW w).tag=2 from h2)]
   by_cases h3: w.tag=3
   ·rw [if_pos h3] at hw;rw [if_pos (show (shW w).tag=3 from h3)];simp only [Bool.and_eq_true] at hw ⊢;exact⟨⟨hw.1.1,rfl⟩,hw.2⟩
   ·rw [if_neg h3] at hw;rw [if_neg (show ¬(shW w).tag=3 from h3)];exact hw
theorem ff {S: PS} {w: Wd} {j: Nat} {o: Option PB} (h: w.n.toNat≠j): atS (S.set j o) w=atS S w:=by
 unfold atS atG;rw [List.length_set]
 split
 ·rfl
 ·rw [List.getD_eq_getElem?_getD,List.getD_eq_getElem?_getD,List.getElem?_set,if_neg (fun e=>h e.symm)]
theorem cA {S: PS} {w: Wd} {j: Nat} {b c: PB} (hj: S[j]? =some (some b)) (ht: b.tag=c.tag) (hw: wordS S w=true): wordS (S.set j (some c)) w=true:=by
 refine dU (fun d hd=>?_) hw
 by_cases h: w.n.toNat=j
 ·obtain⟨h1,h2,h3,h4,h5⟩:=az hd;rw [h,hj] at h4;obtain rfl:=Option.some.inj (Option.some.inj h4);refine⟨c,?_⟩;exact(cl h1 (by rw [List.length_set];exact h2) h3 (by rw [h,List.getElem?_set,if_pos rfl,if_pos (by omega)])).trans (if_pos (by rw [h5];exact ht))
 ·exact⟨d,by rw [ff h];exact hd⟩
theorem ez {S: PS} {w: Wd} {j: Nat} (h: refB w=true→w.n≠(j: Int)) (hw: wordS S w=true): wordS (S.set j none) w=true:=by
 by_cases hr: refB w=true
 ·refine dU (fun d hd=>⟨d,?_⟩) hw;have:=(az hd).1;rw [ff (by have:=h hr;omega)];exact hd
 ·refine dU (fun d hd=>?_) hw
  exfalso
  apply hr
  have h5:=(az hd).2.2.2.2;unfold refB
  cases d <;> simp [PB.tag] at h5 <;> simp [h5]
def Unb (S: PS) (v: Wd): Prop:=v.tag=4∧v.one=false∧atS S v=some (.var [] [])
structure DI (h: HS) (ws bs: List Wd): Prop where
 ok: h.Ok
 wv: ∀ w ∈ ws,wordS h.S w=true
 rv: ∀ w ∈ refsOf h.S,wordS h.S w=true
 pw:(ws++refsOf h.S).Pairwise Sep
 bv: ∀ v ∈ bs,Unb h.S v
 bd: bs.Pairwise (fun x y=>x.n≠y.n)
 hk: ∀(j: Nat) to hk,h.S[j]? =some (some (.var to hk))→hk= []
theorem refsOf_new (n: Nat): refsOf (List.replicate n none)= []:=by
 induction n with
 | zero=>rfl
 | succ n ih=>rw [List.replicate_succ,cd,ih];rfl
theorem DI.new {n: Nat} (h: n≤65536): DI (HS.new n) [] []:=by
 refine⟨HS.Ok.new h,(fun w h=>by cases h),?_,?_,(fun w h=>by cases h),List.Pairwise.nil,fun j to hk hj=>?_⟩
 ·intro w hw;rw [show (HS.new n).S=List.replicate n none from rfl,refsOf_new] at hw;cases hw
 ·rw [show (HS.new n).S=List.replicate n none from rfl,refsOf_new];exact List.Pairwise.nil
 ·simp only [HS.new,List.getElem?_replicate] at hj
  split at hj <;> cases hj
section
variable {h: HS} {ws ws' bs bs': List Wd} {w v x y: Wd}
theorem DI.perm (hd: DI h ws bs) (hp: ws.Perm ws'): DI h ws' bs:=⟨hd.ok,fun w hw=>hd.wv w (hp.mem_iff.2 hw),hd.rv,bU (hp.append_right _) hd.pw,hd.bv,hd.bd,hd.hk⟩
theorem DI.permB (hd: DI h ws bs) (hp: bs.Perm bs'): DI h ws bs':=⟨hd.ok,hd.wv,hd.rv,hd.pw,fun w hw=>hd.bv w (hp.mem_iff.2 hw),(List.Perm.pairwise_iff (fun h e=>h e.symm) hp).1 hd.bd,hd.hk⟩
theorem DI.sub (hd: DI h ws bs) (hp: ws'.Sublist ws): DI h ws' bs:=⟨hd.ok,fun w hw=>hd.wv w (hp.subset hw),hd.rv,hd.pw.sublist (hp.append_right _),hd.bv,hd.bd,hd.hk⟩
theorem DI.tail (hd: DI h (w::ws) bs): DI h ws bs:=hd.sub (List.sublist_cons_self _ _)
theorem DI.lit (hd: DI h ws bs) (hw: wordS h.S w=true) (hr: refB w=false): DI h (w::ws) bs:=by
 refine⟨hd.ok,fun x hx=>?_,hd.rv,?_,hd.bv,hd.bd,hd.hk⟩
 ·rcases List.mem_cons.1 hx with rfl | hx
  ·exact hw
  ·exact hd.wv x hx
 ·rw [List.cons_append,List.pairwise_cons];exact⟨fun y _=>sep_lit hr,hd.pw⟩
theorem DI.share (hd: DI h (w::ws) bs): DI h (shW w::shW w::ws) bs:=by
 refine⟨hd.ok,fun x hx=>?_,hd.rv,pw_share hd.pw,hd.bv,hd.bd,hd.hk⟩
 rcases List.mem_cons.1 hx with rfl | hx
 ·exact fv (hd.wv w List.mem_cons_self)
 ·rcases List.mem_cons.1 hx with rfl | hx
  ·exact fv (hd.wv w List.mem_cons_self)
  ·exact hd.wv x (List.mem_cons_of_mem _ hx)
theorem Unb.ext {S S': PS} (h: Unb S v) (he: Ext S S'): Unb S' v:=⟨h.1,h.2.1,he.at_ h.2.2⟩
theorem DI.place {b: PB} {args: List Wd} (hd: DI h (args++ws) bs) (hb: b.ok) (hw: b.words=args) (hk: ∀ to hk,b=.var to hk→hk= []) (hp: ¬(h.place b).2 < 0): DI (h.place b).1 (⟨b.tag,(h.place b).2,⟨#[]⟩,true⟩ ::ws) bs:=by
 subst hw;obtain⟨h1,h2,h3⟩:=dp hd.ok hb hp;have hx:=place_ext hd.ok b;have hs:(h.place b).1.S=h.S.set (h.place b).2.toNat (some b):=by
  have hp':=hp;rw [bu] at hp' ⊢;unfold HS.place;dsimp only;rw [if_neg hp']
 have hlt:(h.place b).2.toNat < h.S.length:=by
  have:=(List.getElem?_eq_some_iff.1 h1).1
  rwa [hx.len] at this
 have hnone: h.S[(h.place b).2.toNat]? =some none:=by
  rw [List.getElem?_eq_getElem hlt]
  cases hc: h.S[(h.place b).2.toNat] with
  | none=>rfl
  | some c=>exact absurd (by rw [List.getElem?_eq_getElem hlt,hc]) (h3 c)
 have hperm:(refsOf (h.place b).1.S).Perm (b.words++refsOf h.S):=by
  rw [hs];refine(cH (some b) hlt).trans ?_;have e: h.S.set (h.place b).2.toNat none=h.S:=by
   apply List.ext_getElem?
   intro k;rw [List.getElem?_set]
   split
   ·rename_i e
    subst e;rw [hnone]
   ·rfl
  rw [e];exact List.Perm.refl _
 have hrefb: refB ⟨b.tag,(h.place b).2,⟨#[]⟩,true⟩ =true:=by cases b <;> rfl
 have hat: atS (h.place b).1.S ⟨b.tag,(h.place b).2,⟨#[]⟩,true⟩ =some b:=(cl h2 (by show (h.place b).2 < _;rw [hx.len];omega) rfl h1).trans (if_pos rfl);have old: ∀ z,wordS h.S z=true→refB z=true→z.n≠(h.place b).2:=by
  intro z hz hr he;have:=cX hz hr;unfold wordS at hz;unfold refB at hr;simp only [Bool.or_eq_true,decide_eq_true_eq] at hr;rw [if_neg (by omega),if_neg (by omega),if_neg (by omega),Bool.and_eq_true] at hz;obtain⟨c,hc⟩:=Option.isSome_iff_exists.1 hz.2;have:=(az hc).2.2.2.1;rw [he] at this;exact h3 c this
 refine⟨hd.ok.place hb,fun z hz=>?_,fun z hz=>?_,?_,fun z hz=>(hd.bv z hz).ext hx,hd.bd,fun j to hk' hj=>?_⟩
 ·rcases List.mem_cons.1 hz with rfl | hz
  ·exact cy hat
  ·exact eI hx (hd.wv z (List.mem_append_right _ hz))
 ·rcases List.mem_append.1 (hperm.mem_iff.1 hz) with hz | hz
  ·exact eI hx (hd.wv z (List.mem_append_left _ hz))
  ·exact eI hx (hd.rv z hz)
 ·have hp2:((⟨b.tag,(h.place b).2,⟨#[]⟩,true⟩: Wd)::(b.words++ws++refsOf h.S)).Perm ((⟨b.tag,(h.place b).2,⟨#[]⟩,true⟩ ::ws)++refsOf (h.place b).1.S):=by
   rw [List.cons_append];refine List.Perm.cons _ ?_;refine List.Perm.trans ?_ (List.Perm.append_left _ hperm.symm);rw [← List.append_assoc];exact List.perm_append_comm.append_right _
  refine bU hp2 ?_;rw [List.pairwise_cons];refine⟨fun z hz h4 h5 h6=>?_,hd.pw⟩
  exfalso
  have hz2: wordS h.S z=true:=by
   rcases List.mem_append.1 hz with hz | hz
   ·exact hd.wv z hz
   ·exact hd.rv z hz
  exact old z hz2 h5 h6.symm
 ·rw [hs] at hj
  rcases bt hj with ⟨_,e⟩ |⟨_,h4⟩
  ·exact hk to hk' (Option.some.inj e).symm
  ·exact hd.hk j to hk' h4
theorem unb_ne {S: PS} {a: Wd} {b: PB} (hv: Unb S v) (ha: atS S a=some b) (hb: ∀ hk,b≠.var [] hk): v.n≠a.n:=fun e=>by
 have h1:=(az hv.2.2).2.2.2.1;have h2:=(az ha).2.2.2.1;rw [e,h2] at h1;exact hb [] (Option.some.inj (Option.some.inj h1))
theorem Unb.del {S: PS} {j: Nat} {o: Option PB} (hv: Unb S v) (hn: v.n≠(j: Int)): Unb (S.set j o) v:=⟨hv.1,hv.2.1,by
 have:=(az hv.2.2).1;rw [ff (by omega)];exact hv.2.2⟩
theorem DI.only (hd: DI h (w::ws) bs) (ho: w.one=true) (hr: refB w=true): ∀ z ∈ ws++refsOf h.S,refB z=true→z.n≠w.n:=by
 intro z hz h1 h2;have h3:=hd.pw;rw [List.cons_append,List.pairwise_cons] at h3;have:=(h3.1 z hz hr h1 h2.symm).1;rw [ho] at this;cases this
theorem at_ref {S: PS} {b: PB} (h: atS S w=some b): refB w=true:=by
 have h5:=(az h).2.2.2.2;unfold refB
 cases b <;> simp [PB.tag] at h5 <;> simp [h5]
theorem DI.free {l: List Wd} {h': HS} (hd: DI h (w::ws) bs) (hf: h.free w=(h',(l,0))): DI h' (l++ws) bs:=by
 unfold HS.free at hf
 cases hb: atS h.S w with
 | none=>rw [hb] at hf;cases hf
 | some b =>
  rw [hb] at hf;dsimp only at hf
  split at hf
  ·cases hf
  ·rename_i hnv
   split at hf
   ·cases hf
   ·rename_i ho
    have ho: w.one=true:=by simpa using ho
    injection hf with e1 e2
    injection e2 with e2 _
    obtain⟨g1,g2,g3,g4,g5⟩:=az hb;have hcl: h.clear w.n.toNat=⟨h.S.set w.n.toNat none,fillP h.tk w.n.toNat b.size false,h.u - b.size⟩:=by
     unfold HS.clear;rw [List.getD_eq_getElem?_getD,g4];rfl
    have hS': h'.S=h.S.set w.n.toNat none:=by rw [← e1,hcl]
    have hok: h'.Ok:=by rw [← e1];exact hd.ok.clear _
    have honly:=hd.only ho (at_ref hb);have hsp:=bC g4;have hnat:((w.n.toNat: Nat): Int)=w.n:=by omega
    subst e2;refine⟨hok,fun z hz=>?_,fun z hz=>?_,?_,fun z hz=>?_,hd.bd,fun j to hk hj=>?_⟩
    ·rw [hS']
     rcases List.mem_append.1 hz with hz | hz
     ·have hz2: z ∈ refsOf h.S:=hsp.mem_iff.2 (List.mem_append_left _ hz);exact ez (fun hr e=>honly z (List.mem_append_right _ hz2) hr (by omega)) (hd.rv z hz2)
     ·exact ez (fun hr e=>honly z (List.mem_append_left _ hz) hr (by omega)) (hd.wv z (List.mem_cons_of_mem _ hz))
    ·rw [hS'] at hz ⊢;have hz2: z ∈ refsOf h.S:=hsp.mem_iff.2 (List.mem_append_right _ hz);exact ez (fun hr e=>honly z (List.mem_append_right _ hz2) hr (by omega)) (hd.rv z hz2)
    ·rw [hS'];have h3:(ws++refsOf h.S).Pairwise Sep:=hd.tail.pw;refine bU ?_ h3;refine(List.Perm.append_left _ hsp).trans ?_
     show (ws++(b.words++_)).Perm (b.words++ws++_)
     rw [← List.append_assoc];exact List.perm_append_comm.append_right _
    ·rw [hS'];refine(hd.bv z hz).del ?_;rw [hnat];refine unb_ne (hd.bv z hz) hb (fun hk e=>hnv ?_);subst e;exact⟨rfl,rfl⟩
    ·rw [hS'] at hj
     rcases bt hj with ⟨_,e⟩ |⟨_,h4⟩
     ·cases e
     ·exact hd.hk j to hk h4
theorem DI.put {b c: PB} {args: List Wd} (hd: DI h (args++ws) bs) {j: Nat} (hj: h.S[j]? =some (some b)) (hc: c.words=args) (ht: b.tag=c.tag) (hok:(h.setB j c).Ok) (hnv: ∀ to hk,b≠.var to hk): DI (h.setB j c) (b.words++ws) bs:=by
 subst hc;have hlt:=(List.getElem?_eq_some_iff.1 hj).1;have hsp:=bC hj;have hst:=cH (some c) hlt;have hS':(h.setB j c).S=h.S.set j (some c):=rfl;refine⟨hok,fun z hz=>?_,fun z hz=>?_,?_,fun z hz=>?_,hd.bd,fun i to hk hi=>?_⟩
 ·rw [hS'];refine cA hj ht ?_
  rcases List.mem_append.1 hz with hz | hz
  ·exact hd.rv z (hsp.mem_iff.2 (List.mem_append_left _ hz))
  ·exact hd.wv z (List.mem_append_right _ hz)
 ·rw [hS'] at hz ⊢;refine cA hj ht ?_
  rcases List.mem_append.1 (hst.mem_iff.1 hz) with hz | hz
  ·exact hd.wv z (List.mem_append_left _ hz)
  ·exact hd.rv z (hsp.mem_iff.2 (List.mem_append_right _ hz))
 ·rw [hS'];refine bU ?_ hd.pw;refine(List.Perm.append_left _ hsp).trans ?_;refine List.Perm.trans ?_ (List.Perm.append_left _ hst.symm)
  show (c.words++ws++(b.words++_)).Perm (b.words++ws++(c.words++_))
  rw [← List.append_assoc,← List.append_assoc];refine List.Perm.append_right _ ?_;rw [List.append_assoc];refine List.perm_append_comm.trans ?_;refine List.Perm.append_right _ ?_;exact List.perm_append_comm
 ·rw [hS'];refine(hd.bv z hz).del (fun e=>?_);have:=(az (hd.bv z hz).2.2).2.2.2.1;rw [show z.n.toNat=j by omega,hj] at this;exact hnv _ _ (Option.some.inj (Option.some.inj this))
 ·rw [hS'] at hi
  rcases bt hi with ⟨_,e⟩ |⟨_,h4⟩
  ·have e:=Option.some.inj e;rw [← e] at ht
   cases b with
   | var t2 k2=>exact absurd rfl (hnv t2 k2)
   | fn s l=>cases ht
   | vec l=>cases ht
  ·exact hd.hk i to hk h4
end
end Go.Vk
namespace Go.Vk
theorem bB {α: Type}: ∀ {l: List α} {i: Nat} (h: i < l.length),(l[i]::l.eraseIdx i).Perm l
 | [],i,h=>by simp at h
 | x::l,0,h=>List.Perm.refl _
 | x::l,i+1,h=>by
  have h2: i < l.length:=by simpa using h
  rw [List.eraseIdx_cons_succ]
  show (l[i]::x::l.eraseIdx i).Perm (x::l)
  exact(List.Perm.swap _ _ _).trans (List.Perm.cons _ (bB h2))
section
variable {h h': HS} {ws ws' bs bs' pool pool': List Wd} {w v x y u: Wd}
theorem DI.swap {b c: PB} (hd: DI h pool bs) {j: Nat} (hj: h.S[j]? =some (some b)) (hp:(c.words++pool').Perm (b.words++pool)) (ht: b.tag=c.tag) (hok:(h.setB j c).Ok) (hb: ∀ z ∈ bs,z.n≠(j: Int)) (hv: ∀ to hk,c=.var to hk→hk= []): DI (h.setB j c) pool' bs:=by
 have hlt:=(List.getElem?_eq_some_iff.1 hj).1;have hsp:=bC hj;have hst:=cH (some c) hlt;have hS':(h.setB j c).S=h.S.set j (some c):=rfl;have hw: ∀ z ∈ b.words++pool,wordS h.S z=true:=fun z hz=>by
  rcases List.mem_append.1 hz with hz | hz
  ·exact hd.rv z (hsp.mem_iff.2 (List.mem_append_left _ hz))
  ·exact hd.wv z hz
 refine⟨hok,fun z hz=>?_,fun z hz=>?_,?_,fun z hz=>(hd.bv z hz).del (hb z hz),hd.bd,fun i to hk hi=>?_⟩
 ·rw [hS'];exact cA hj ht (hw z (hp.mem_iff.1 (List.mem_append_right _ hz)))
 ·rw [hS'] at hz ⊢;refine cA hj ht ?_
  rcases List.mem_append.1 (hst.mem_iff.1 hz) with hz | hz
  ·exact hw z (hp.mem_iff.1 (List.mem_append_left _ hz))
  ·exact hd.rv z (hsp.mem_iff.2 (List.mem_append_right _ hz))
 ·rw [hS'];refine bU ?_ hd.pw;refine(List.Perm.append_left _ hsp).trans ?_;refine List.Perm.trans ?_ (List.Perm.append_left _ hst.symm)
  show (pool++(b.words++_)).Perm (pool'++(c.words++_))
  rw [← List.append_assoc,← List.append_assoc];exact List.Perm.append_right _ ((List.perm_append_comm.trans hp.symm).trans List.perm_append_comm)
 ·rw [hS'] at hi
  rcases bt hi with ⟨_,e⟩ |⟨_,h4⟩
  ·exact hv to hk (Option.some.inj e).symm
  ·exact hd.hk i to hk h4
theorem DI.bs_ne {b: PB} (hd: DI h pool bs) {j: Nat} (hj: h.S[j]? =some (some b)) (hb: ∀ hk,b≠.var [] hk): ∀ z ∈ bs,z.n≠(j: Int):=fun z hz e=>by
 have:=(az (hd.bv z hz).2.2).2.2.2.1;rw [show z.n.toNat=j by omega,hj] at this;exact hb [] (Option.some.inj (Option.some.inj this))
def holdP (ws: List Wd) (w: Wd) (e: Int): List Wd:=if e=0 then ws++ [w] else ws
theorem dM (ws: List Wd) (w: Wd): holdP ws w 0=ws++ [w]:=if_pos rfl
theorem holdP_no {e: Int} (ws: List Wd) (w: Wd) (h: ¬ e=0): holdP ws w e=ws:=if_neg h
theorem DI.snoc (hd: DI h (w::ws) bs): DI h (ws++ [w]) bs:=hd.perm (List.perm_append_comm (l₁:= [w]) (l₂:=ws))
theorem place_same {b: PB} (hp:(h.place b).2 < 0):(h.place b).1=h:=by
 rw [bu] at hp;unfold HS.place;dsimp only;rw [if_pos hp]
theorem DI.held {b: PB} {args: List Wd} (hd: DI h (args++ws) bs) (hb: b.ok) (hw: b.words=args) (hk: ∀ to hk,b=.var to hk→hk= []): DI (h.place b).1 (holdP ws (refW b.tag (h.place b).2).1 (refW b.tag (h.place b).2).2) bs:=by
 unfold refW
 by_cases hp:(h.place b).2 < 0
 ·rw [if_pos hp,holdP_no _ _ (by show ¬(210: Int)=0;omega),place_same hp];exact hd.sub (List.sublist_append_right _ _)
 ·rw [if_neg hp,dM];exact(hd.place hb hw hk hp).snoc
theorem DI.allW (hd: DI h ws bs) (hs: ws'.Sublist ws): allS h.S ws'=true:=by
 unfold allS;rw [List.all_eq_true];exact fun w hw=>hd.wv w (hs.subset hw)
theorem DI.hfun {s: ByteArray} {args: List Wd} (hd: DI h (args++ws) bs) (hs: nmB s=true) (h1: 1≤args.length) (h2: args.length≤16): DI (h.fun_ s args).1 (holdP ws (h.fun_ s args).2.1 (h.fun_ s args).2.2) bs:=by
 unfold HS.fun_;rw [if_neg (by rw [hs];simp),if_neg (by rw [hd.allW (List.sublist_append_left _ _)];simp),if_neg (by omega)];exact hd.held (b:=.fn s args) (by show args.length≤64;omega) rfl (fun _ _ e=>by cases e)
theorem DI.hvec {args: List Wd} (hd: DI h (args++ws) bs) (h2: args.length≤64): DI (h.vec args).1 (holdP ws (h.vec args).2.1 (h.vec args).2.2) bs:=by
 unfold HS.vec;rw [if_neg (by rw [hd.allW (List.sublist_append_left _ _)];simp),if_neg (by omega)];exact hd.held (b:=.vec args) h2 rfl (fun _ _ e=>by cases e)
theorem DI.var (hd: DI h ws bs):(h.var.2.2=0→DI h.var.1 (ws++ [h.var.2.1]) (bs++ [shW h.var.2.1]))∧(¬ h.var.2.2=0→h.var.1=h):=by
 have hb:(PB.var [] []).ok:=⟨Nat.zero_le _,Nat.zero_le _⟩;unfold HS.var refW;dsimp only
 by_cases hp:(h.place (.var [] [])).2 < 0
 ·rw [if_pos hp];exact⟨fun e=>absurd e (by show ¬(210: Int)=0;omega),fun _=>place_same hp⟩
 ·rw [if_neg hp];refine⟨fun _=>?_,fun e=>absurd rfl e⟩;obtain⟨h1,h2,h3⟩:=dp hd.ok hb hp;have hx:=place_ext hd.ok (.var [] []);have hlt:(h.place (.var [] [])).2.toNat < h.S.length:=by
   have:=(List.getElem?_eq_some_iff.1 h1).1
   rwa [hx.len] at this
  have hd':=(DI.place (args:= []) hd hb rfl (fun _ _ e=>by injection e with e1 e2;exact e2.symm) hp).snoc;refine⟨hd'.ok,hd'.wv,hd'.rv,hd'.pw,fun z hz=>?_,?_,hd'.hk⟩
  ·rcases List.mem_append.1 hz with hz | hz
   ·exact hd'.bv z hz
   ·rw [List.mem_singleton] at hz;subst hz;exact⟨rfl,rfl,(cl h2 (by show (h.place _).2 < _;rw [hx.len];omega) rfl h1).trans (if_pos rfl)⟩
  ·rw [List.pairwise_append];refine⟨hd'.bd,List.pairwise_singleton _ _,fun z hz q hq e=>?_⟩;rw [List.mem_singleton] at hq;subst hq;have h4:=(az (hd.bv z hz).2.2).2.2.2.1;rw [show z.n.toNat=(h.place (.var [] [])).2.toNat from congrArg Int.toNat e] at h4;exact h3 _ h4
theorem free_no (hf: ¬(h.free w).2.2=0):(h.free w).1=h:=by
 unfold HS.free at hf ⊢
 cases hb: atS h.S w with
 | none=>rfl
 | some b =>
  rw [hb] at hf;dsimp only at hf ⊢
  split
  ·rfl
  ·split
   ·rfl
   ·rename_i h1 h2
    rw [if_neg h1,if_neg h2] at hf;exact absurd rfl hf
def partsS (S: PS) (w: Wd): ByteArray × List Wd × Int:=
 match atS S w with
 | some (.fn s l)=>(s,l,0)
 | some (.vec l)=>(⟨#[]⟩,l,0)
 | _=>(⟨#[]⟩, [],211)
def HS.reuse (h: HS) (w: Wd) (s: ByteArray) (l: List Wd): HS ×(Wd × Int):=
 match atS h.S w with
 | some (.fn s0 l0)=>if w.one=false then (h,(Wd.zero,212)) else if nmB s=false then (h,(Wd.zero,1)) else if allS h.S l=false then (h,(Wd.zero,211)) else if ¬ l.length=l0.length then (h,(Wd.zero,1)) else (h.setB w.n.toNat (.fn s l),(w,0))
 | _=>(h,(Wd.zero,211))
theorem setB_ok {b c: PB} (hO: h.Ok) {j: Nat} (hj: h.S[j]? =some (some b)) (hs: b.size=c.size) (hc: c.ok):(h.setB j c).Ok:=by
 have hlt:=(List.getElem?_eq_some_iff.1 hj).1;have key: ∀(k: Nat) (d: PB),(h.S.set j (some c))[k]? =some (some d)→∃ d',h.S[k]? =some (some d')∧d'.size=d.size∧(d.ok∨d'=d):=fun k d hk=>by
  rcases bt hk with ⟨e1,e2⟩ |⟨_,h4⟩
  ·obtain rfl:=Option.some.inj e2;exact⟨b,by rw [e1];exact hj,hs,.inl hc⟩
  ·exact⟨d,h4,rfl,.inr rfl⟩
 have key2: ∀(k: Nat) (d: PB),h.S[k]? =some (some d)→∃ d',(h.S.set j (some c))[k]? =some (some d')∧d'.size=d.size:=fun k d hk=>by
  by_cases e: j=k
  ·subst e;rw [hj] at hk;obtain rfl:=Option.some.inj (Option.some.inj hk);exact⟨c,by rw [List.getElem?_set,if_pos rfl,if_pos hlt],hs.symm⟩
  ·exact⟨d,by rw [List.getElem?_set,if_neg e];exact hk,rfl⟩
 refine⟨?_,?_,fun k d hk=>?_,fun k=>?_,fun i k d e hi hk hik=>?_,hO.cnt⟩
 ·show h.tk.length=(h.S.set j (some c)).length
  rw [List.length_set];exact hO.ltk
 ·show (h.S.set j (some c)).length≤65536
  rw [List.length_set];exact hO.le
 ·obtain⟨d',h1,h2,h3⟩:=key k d hk;have h4:=hO.blk k d' h1;refine⟨?_,by show _≤(h.S.set j (some c)).length;rw [List.length_set];omega⟩
  rcases h3 with h3 | h3
  ·exact h3
  ·rw [← h3];exact h4.1
 ·show h.tk[k]? =some true↔∃ j_ b_,(h.S.set j (some c))[j_]? =some (some b_)∧j_≤k∧k < j_+b_.size
  rw [hO.tkn k]
  constructor
  ·rintro⟨i,d,h1,h2,h3⟩;obtain⟨d',h4,h5⟩:=key2 i d h1;exact⟨i,d',h4,h2,by omega⟩
  ·rintro⟨i,d,h1,h2,h3⟩;obtain⟨d',h4,h5,_⟩:=key i d h1;exact⟨i,d',h4,h2,by omega⟩
 ·obtain⟨d',h1,h2,_⟩:=key i d hi;obtain⟨e',h3,h4,_⟩:=key k e hk;have:=hO.dis i k d' e' h1 h3 hik;omega
theorem HS.Ok.reuse (hO: h.Ok) (w: Wd) (s: ByteArray) (l: List Wd):(h.reuse w s l).1.Ok:=by
 unfold HS.reuse
 split
 ·rename_i s0 l0 hb
  repeat' split
  all_goals try exact hO
  rename_i hl
  have hl: l.length=l0.length:=Classical.byContradiction fun e=>hl e;have hj:=(az hb).2.2.2.1;have h0: l0.length≤64:=(hO.blk _ _ hj).1;exact setB_ok hO hj (by show l0.length+1=l.length+1;omega) (by show l.length≤64;omega)
 ·exact hO
theorem DI.reuse {s s0: ByteArray} {args l0: List Wd} (hd: DI h (w::(args++ws)) bs) (hb: atS h.S w=some (.fn s0 l0)) (ho: w.one=true) (hs: nmB s=true) (hl: args.length=l0.length): ∃ h',h.reuse w s args=(h',(w,0))∧DI h' (ws++ [w]++l0) bs:=by
 have hj:=(az hb).2.2.2.1;have hok:=hd.ok.reuse w s args;have e: h.reuse w s args=(h.setB w.n.toNat (.fn s args),(w,0)):=by
  unfold HS.reuse;rw [hb];dsimp only;rw [if_neg (by rw [ho];simp),if_neg (by rw [hs];simp),if_neg (by rw [hd.allW ((List.sublist_append_left _ _).trans (List.sublist_cons_self _ _))];simp),if_neg (by omega)]
 rw [e] at hok;refine⟨_,e,?_⟩;refine hd.swap hj ?_ rfl hok (hd.bs_ne hj (fun _ e=>by cases e)) (fun _ _ e=>by cases e)
 show (args++(ws++ [w]++l0)).Perm (l0++(w::(args++ws)))
 have p1:(ws++ [w]++l0).Perm (l0++(w::ws)):=List.perm_append_comm.trans (List.Perm.append_left _ List.perm_append_comm);refine(List.Perm.append_left _ p1).trans ?_;rw [← List.append_assoc];refine(List.perm_append_comm.append_right _).trans ?_;rw [List.append_assoc];refine List.Perm.append_left _ ?_;exact List.perm_middle
theorem fol_word {S: PS} (hr: ∀ w ∈ refsOf S,wordS S w=true): ∀(k: Nat) (w x: Wd),wordS S w=true→folS S k w=(x,true)→wordS S x=true
 | 0,w,x,hw,h=>by rw [folS] at h;cases h
 | k+1,w,x,hw,h=>by
  rw [folS] at h
  split at h
  ·rename_i y ys hk hb
   refine fol_word hr k _ x ?_ h;have hy:=hr y (refsOf_mem.2 ⟨_,_,(az hb).2.2.2.1,List.mem_cons_self⟩);unfold nxtW
   split
   ·rename_i hrf
    refine dU (S:=S) (S':=S) (w:=⟨y.tag,y.n,y.s,y.one&&w.one⟩) (fun b hb=>⟨b,hb⟩) ?_;unfold wordS at hy ⊢;unfold refB at hrf;simp only [Bool.or_eq_true,decide_eq_true_eq] at hrf;rw [if_neg (by omega),if_neg (by omega),if_neg (by omega)] at hy;rw [if_neg (by show ¬ y.tag=1;omega),if_neg (by show ¬ y.tag=2;omega),if_neg (by show ¬ y.tag=3;omega)];exact hy
   ·exact hy
  ·injection h with h1 _
   rw [← h1];exact hw
theorem unb_follow {S: PS} {v: Wd} (h: Unb S v): followS S v=(v,true):=by
 unfold followS;rw [folS,h.2.2]
theorem unb_value {S: PS} {v: Wd} (h: Unb S v): valueS S v=(v,0):=by
 unfold valueS;rw [if_neg (by rw [cy h.2.2];simp),unb_follow h];dsimp only;rw [if_neg (by simp),if_neg (by rw [cy h.2.2];simp)]
theorem cG {S: PS}: ∀(k: Nat) (w x: Wd),folS S k w=(x,true)→∀ y ys hk,atS S x≠some (.var (y::ys) hk)
 | 0,w,x,h=>by rw [folS] at h;cases h
 | k+1,w,x,h=>by
  rw [folS] at h
  split at h
  ·exact cG k _ x h
  ·rename_i hn
   injection h with h1 _
   subst h1;intro y ys hk e;exact hn y ys hk e
theorem read_var {S: PS} {w: Wd} {T: Tm} (hr: readS S w=(T,0)):(followS S w).2=true∧∀ hk,atS S (followS S w).1=some (.var [] hk)→T=.mk 1 (followS S w).1.n ⟨#[]⟩ []:=by
 unfold readS at hr
 split at hr
 ·cases hr
 ·split at hr
  ·rename_i t ht
   injection hr with hr _
   subst hr;rw [show (600: Nat)=599+1 from rfl,rdS] at ht;dsimp only at ht
   split at ht
   ·cases ht
   ·rename_i h1
    have h2:(followS S w).2=true:=by
     cases e:(followS S w).2 with
     | true=>rfl
     | false=>exact absurd (.inl e) h1
    refine⟨h2,fun hk ha=>?_⟩;have h4:=(az ha).2.2.2.2;have h4:(followS S w).1.tag=4:=h4;rw [if_neg (by omega),if_neg (by omega),if_neg (by omega),ha] at ht;exact(Option.some.inj ht).symm
  ·cases hr
theorem set_self {α: Type} {l: List α} {j: Nat} {x: α} (h: l[j]? =some x): l.set j x=l:=by
 apply List.ext_getElem?
 intro k;rw [List.getElem?_set]
 split
 ·rename_i e
  subst e;rw [if_pos (List.getElem?_eq_some_iff.1 h).1,h]
 ·rfl
theorem DI.bind {T: Tm} (hd: DI h (y::ws) (v::bs)) (hr: readS h.S y=(T,0)) (hne: T.kind=1→T.n≠v.n): ∃ h',h.bind v y=(h',([],0))∧h'=h.setB v.n.toNat (.var [y] [])∧DI h' ws bs:=by
 have hv:=hd.bv v List.mem_cons_self;obtain⟨g1,g2,g3,g4,g5⟩:=az hv.2.2;obtain⟨hf,hvar⟩:=read_var hr;have hyw:=hd.wv y List.mem_cons_self;have hfw: wordS h.S (followS h.S y).1=true:=fol_word hd.rv _ y _ hyw (Prod.ext rfl hf);have hval: valueS h.S y=((followS h.S y).1,0):=by
  unfold valueS;rw [if_neg (by rw [hyw];simp)];dsimp only;rw [if_neg (by rw [hf];simp),if_neg (by rw [hfw];simp)]
 have hopen: openS h.S v=(some v.n.toNat,0):=by
  unfold openS;rw [unb_value hv];dsimp only;rw [if_neg (by simp),hv.2.2]
 have hhk: hooksAt h.S v.n.toNat= []:=by
  unfold hooksAt;rw [List.getD_eq_getElem?_getD,g4];rfl
 have hok:=hd.ok.bind v y;have e: h.bind v y=(h.setB v.n.toNat (.var [y] []),([],0)):=by
  unfold HS.bind;rw [hopen,hval];dsimp only;rw [if_neg (by simp),if_neg (by simp)]
  cases ha: atS h.S (followS h.S y).1 with
  | none=>dsimp only;rw [hhk]
  | some b =>
   cases b with
   | fn s l=>dsimp only;rw [hhk]
   | vec l=>dsimp only;rw [hhk]
   | var to hk =>
    dsimp only;obtain⟨q1,q2,q3,q4,q5⟩:=az ha;have hk0:=hd.hk _ _ _ q4;have hto: to= []:=by
     cases to with
     | nil=>rfl
     | cons z zs=>exact absurd ha (cG _ _ _ (Prod.ext rfl hf) z zs hk)
    subst hto hk0;have hT:=hvar _ ha;have hne':(followS h.S y).1.n≠v.n:=by
     have:=hne (by rw [hT];rfl);rw [hT] at this;exact this
    rw [if_neg (by omega),hhk];have hset: h.setB (followS h.S y).1.n.toNat (.var [] [])=h:=by
     unfold HS.setB;rw [set_self q4]
    rw [show addG [] []= [] from rfl,if_neg (by simp),hset]
 rw [e] at hok;refine⟨_,e,rfl,?_⟩;have hbd:=List.pairwise_cons.1 hd.bd;have hd2: DI h (y::ws) bs:=⟨hd.ok,hd.wv,hd.rv,hd.pw,fun z hz=>hd.bv z (List.mem_cons_of_mem _ hz),hbd.2,hd.hk⟩;refine hd2.swap g4 ?_ rfl hok (fun z hz e=>hbd.1 z hz (by omega)) (fun _ _ e=>by injection e with _ e;exact e.symm)
 show ([y]++ws).Perm ([]++y::ws)
 exact List.Perm.refl _
theorem DI.update1 {l: List Wd} {i: Int} (hd: DI h (w::y::ws) bs) (hb: atS h.S w=some (.vec l)) (ho: w.one=true) (hi: 0≤i∧i < l.length): ∃ h',h.update w i y=(h',(w,l.getD i.toNat Wd.zero,true,0))∧h'=h.setB w.n.toNat (.vec (l.set i.toNat y))∧DI h' (ws++ [w,l.getD i.toNat Wd.zero]) bs:=by
 have hj:=(az hb).2.2.2.1;have hyw:=hd.wv y (List.mem_cons_of_mem _ List.mem_cons_self);have hok:=hd.ok.update w i y;have e: h.update w i y=(h.setB w.n.toNat (.vec (l.set i.toNat y)),(w,l.getD i.toNat Wd.zero,true,0)):=by
  unfold HS.update;rw [hb];dsimp only;rw [if_neg (by omega),if_neg (by rw [hyw];simp),if_pos ho]
 rw [e] at hok;refine⟨_,e,rfl,?_⟩;refine hd.swap hj ?_ rfl hok (hd.bs_ne hj (fun _ e=>by cases e)) (fun _ _ e=>by cases e);have hlt: i.toNat < l.length:=by omega
 show (l.set i.toNat y++(ws++ [w,l.getD i.toNat Wd.zero])).Perm (l++(w::y::ws))
 have hg: l.getD i.toNat Wd.zero=l[i.toNat]:=by rw [List.getD_eq_getElem?_getD,List.getElem?_eq_getElem hlt];rfl
 rw [hg];have p1:(ws++ [w,l[i.toNat]]).Perm (l[i.toNat]::(w::ws)):=List.perm_append_comm.trans (List.Perm.swap _ _ _);refine(List.Perm.append_left _ p1).trans ?_;refine List.perm_middle.trans ?_;have p2:(l[i.toNat]::(l.set i.toNat y)).Perm (y::l):=by
  have a1:(l.set i.toNat y).Perm (y::l.eraseIdx i.toNat):=by
   have:=bB (l:=l.set i.toNat y) (i:=i.toNat) (by rw [List.length_set];exact hlt);rw [List.getElem_set_self,List.eraseIdx_set_eq] at this;exact this.symm
  have a2:(l[i.toNat]::l.eraseIdx i.toNat).Perm l:=bB hlt;exact(List.Perm.cons _ a1).trans ((List.Perm.swap _ _ _).trans (List.Perm.cons _ a2))
 refine List.Perm.trans (l₂:=(y::l)++(w::ws)) ?_ ?_
 ·rw [← List.cons_append];exact p2.append_right _
 ·rw [List.cons_append];refine List.perm_middle.symm.trans ?_;exact List.Perm.append_left _ (List.Perm.swap _ _ _)
end
end Go.Vk
namespace Go.Vk
def refTo (a: Int) (w: Wd): Bool:=refB w&&decide (w.n=a)
theorem bL {a: Int} {w: Wd}: refTo a w=true↔refB w=true∧w.n=a:=by
 unfold refTo;rw [Bool.and_eq_true,decide_eq_true_eq]
theorem cP {l: List Wd} {p: Wd→Bool} (h: ∀ w ∈ l,p w=false): l.countP p=0:=by
 rw [List.countP_eq_zero];intro w hw e;rw [h w hw] at e;cases e
theorem pw_one {a: Int}: ∀ {l: List Wd},l.Pairwise Sep→(∃ w ∈ l,refTo a w=true∧w.one=true)→l.countP (refTo a)≤1
 | [],_,⟨w,hw,_⟩=>by cases hw
 | x::l,h,⟨w,hw,h1,h2⟩=>by
  rw [List.pairwise_cons] at h;rw [List.countP_cons]
  by_cases hx: refTo a x=true
  ·obtain⟨x1,x2⟩:=bL.1 hx;have h0: l.countP (refTo a)=0:=cP fun z hz=>by
    cases hq: refTo a z with
    | false=>rfl
    | true =>
     exfalso
     obtain⟨z1,z2⟩:=bL.1 hq;have h3:=h.1 z hz x1 z1 (by omega)
     rcases List.mem_cons.1 hw with rfl | hw
     ·rw [h2] at h3;exact absurd h3.1 (by simp)
     ·obtain⟨w1,w2⟩:=bL.1 h1;have h4:=(h.1 w hw x1 w1 (by omega)).2;rw [h2] at h4;cases h4
   rw [h0,if_pos hx];exact Nat.le_refl _
  ·rw [if_neg hx]
   rcases List.mem_cons.1 hw with rfl | hw
   ·exact absurd h1 hx
   ·have:=pw_one h.2 ⟨w,hw,h1,h2⟩;omega
theorem note_fold {n: Nat}: ∀(l: List Wd) (c: List Int × List Bool),c.1.length=n→c.2.length=n→(∀ w ∈ l,refB w=true→0≤w.n∧w.n < n)→∀ j: Nat,j < n→(l.foldl noteW c).1.getD j 0=c.1.getD j 0+((l.countP (refTo j): Nat): Int)∧((l.foldl noteW c).2.getD j false=true→c.2.getD j false=true∨∃ w ∈ l,refTo j w=true∧w.one=true)
 | [],c,_,_,_,j,_=>⟨by simp,fun h=>.inl h⟩
 | w::l,c,h1,h2,hl,j,hj=>by
  have ih:=note_fold l (noteW c w) (by rw [dv];exact h1) (by rw [dC];exact h2) (fun z hz=>hl z (List.mem_cons_of_mem _ hz)) j hj;rw [List.foldl_cons,List.countP_cons];have key:(noteW c w).1.getD j 0=c.1.getD j 0+(if refTo j w=true then 1 else 0)∧((noteW c w).2.getD j false=true→c.2.getD j false=true∨(refTo j w=true∧w.one=true)):=by
   unfold noteW
   by_cases hr: refB w=true
   ·have hb:=hl w List.mem_cons_self hr;rw [if_pos hr];dsimp only
    by_cases hn: w.n=(j: Int)
    ·have e: w.n.toNat=j:=by omega
     have ht: refTo j w=true:=bL.2 ⟨hr,hn⟩;rw [if_pos ht,e];refine⟨?_,fun h=>?_⟩
     ·rw [List.getD_eq_getElem?_getD,List.getElem?_set,if_pos rfl,if_pos (by omega)];rfl
     ·rw [List.getD_eq_getElem?_getD,List.getElem?_set,if_pos rfl,if_pos (by omega)] at h;simp only [Option.getD_some,Bool.or_eq_true] at h
      rcases h with h | h
      ·exact .inl h
      ·exact .inr ⟨ht,h⟩
    ·have e: w.n.toNat≠j:=by omega
     have ht: ¬ refTo j w=true:=fun e=>hn (bL.1 e).2;rw [if_neg ht];refine⟨?_,fun h=>.inl ?_⟩
     ·rw [List.getD_eq_getElem?_getD,List.getElem?_set,if_neg e,← List.getD_eq_getElem?_getD,Int.add_zero]
     ·rw [List.getD_eq_getElem?_getD,List.getElem?_set,if_neg e,← List.getD_eq_getElem?_getD] at h;exact h
   ·have ht: ¬ refTo j w=true:=fun e=>hr (bL.1 e).1;rw [if_neg hr,if_neg ht];exact⟨by omega,fun h=>.inl h⟩
  refine⟨?_,fun h=>?_⟩
  ·rw [ih.1,key.1]
   split <;> omega
  ·rcases ih.2 h with h3 |⟨z,hz,h3⟩
   ·rcases key.2 h3 with h4 | h4
    ·exact .inl h4
    ·exact .inr ⟨w,List.mem_cons_self,h4⟩
   ·exact .inr ⟨z,List.mem_cons_of_mem _ hz,h3⟩
theorem noteL_fold {S: PS}: ∀(l: List Wd) (c: List Int × List Bool),(∀ w ∈ l,wordS S w=true)→noteL S c l=some (l.foldl noteW c)
 | [],c,_=>rfl
 | w::l,c,h=>by
  rw [noteL,if_neg (by rw [h w List.mem_cons_self];simp),List.foldl_cons];exact noteL_fold l _ (fun z hz=>h z (List.mem_cons_of_mem _ hz))
theorem noteB_fold {S: PS}: ∀(js: List Nat) (c: List Int × List Bool),(∀ j ∈ js,∀ w ∈ wordsAt S j,wordS S w=true)→noteB S c js=some ((js.flatMap (wordsAt S)).foldl noteW c)
 | [],c,_=>rfl
 | j::js,c,h=>by
  rw [noteB,noteL_fold _ _ (h j List.mem_cons_self)];dsimp only;rw [noteB_fold js _ (fun i hi=>h i (List.mem_cons_of_mem _ hi)),List.flatMap_cons,List.foldl_append]
theorem dJ {S: PS}: ∀(k: Nat) (met: List Bool) (out: List Nat) (st: List Wd),met.length=S.length→out.Nodup→(∀ j ∈ out,met.getD j false=true)→(walkS S k met out st).Nodup
 | 0,met,out,st,h1,h2,h3=>by cases st <;>(rw [walkS];exact h2)
 | k+1,met,out, [],h1,h2,h3=>by rw [walkS];exact h2
 | k+1,met,out,w::st,h1,h2,h3=>by
  cases ha: atS S w with
  | none=>rw [dN ha];exact dJ k met out st h1 h2 h3
  | some b =>
   cases hm: met.getD w.n.toNat false with
   | true=>rw [eC ha hm];exact dJ k met out st h1 h2 h3
   | false =>
    rw [eH ha hm];have hlt: w.n.toNat < met.length:=by
     have:=az ha;omega
    refine dJ k _ _ _ (by rw [List.length_set];exact h1) ?_ (fun j hj=>?_)
    ·rw [List.nodup_append];refine⟨h2,List.pairwise_singleton _ _,fun x hx y hy e=>?_⟩;rw [List.mem_singleton] at hy;subst hy e;rw [h3 _ hx] at hm;cases hm
    ·rw [List.getD_eq_getElem?_getD,List.getElem?_set]
     split
     ·rfl
     ·rename_i e
      rcases List.mem_append.1 hj with hj | hj
      ·rw [← List.getD_eq_getElem?_getD];exact h3 j hj
      ·rw [List.mem_singleton] at hj;exact absurd hj.symm e
theorem blocksS_nodup (S: PS) (roots: List Wd):(blocksS S roots).Nodup:=dJ _ _ _ _ (List.length_replicate) List.nodup_nil (fun j hj=>by cases hj)
theorem cp (S: PS) (j: Nat): wordsAt S j=wdsO (S.getD j none):=by
 unfold wordsAt wdsO
 cases S.getD j none <;> rfl
theorem wordsAt_other {S: PS} {i j: Nat} {o: Option PB} (h: i≠j): wordsAt (S.set j o) i=wordsAt S i:=by
 rw [cp,cp,List.getD_eq_getElem?_getD,List.getElem?_set,if_neg (fun e=>h e.symm),← List.getD_eq_getElem?_getD]
theorem flatMap_congr' {α β: Type} {f g: α→List β}: ∀ {l: List α},(∀ x ∈ l,f x=g x)→l.flatMap f=l.flatMap g
 | [],_=>rfl
 | x::l,h=>by rw [List.flatMap_cons,List.flatMap_cons,h x List.mem_cons_self,flatMap_congr' fun y hy=>h y (List.mem_cons_of_mem _ hy)]
theorem eK: ∀(js: List Nat) (S: PS),js.Nodup→∃ rest,(refsOf S).Perm (js.flatMap (wordsAt S)++rest)
 | [],S,_=>⟨refsOf S,List.Perm.refl _⟩
 | j::js,S,h=>by
  rw [List.nodup_cons] at h
  cases hj: S[j]? with
  | none =>
   obtain⟨rest,hr⟩:=eK js S h.2;refine⟨rest,?_⟩;have e: wordsAt S j= []:=by rw [cp,List.getD_eq_getElem?_getD,hj];rfl
   rw [List.flatMap_cons,e];exact hr
  | some o =>
   obtain⟨rest,hr⟩:=eK js (S.set j none) h.2;refine⟨rest,?_⟩;have e: wordsAt S j=wdsO o:=by rw [cp,List.getD_eq_getElem?_getD,hj];rfl
   rw [List.flatMap_cons,e,List.append_assoc,← flatMap_congr' (f:=wordsAt (S.set j none)) fun i hi=>wordsAt_other (fun e=>h.1 (by rw [← e];exact hi))];exact(bC hj).trans (List.Perm.append_left _ hr)
section
variable {h h': HS} {ws ws' bs bs' pool pool': List Wd} {w v x y u: Wd}
theorem bs_count {a: Int}: ∀ {bs: List Wd},bs.Pairwise (fun x y=>x.n≠y.n)→bs.countP (refTo a)≤1
 | [],_=>Nat.zero_le _
 | x::l,h=>by
  rw [List.pairwise_cons] at h;rw [List.countP_cons]
  by_cases hx: refTo a x=true
  ·have h0: l.countP (refTo a)=0:=cP fun z hz=>by
    cases hq: refTo a z with
    | false=>rfl
    | true=>exact absurd ((bL.1 hx).2.trans (bL.1 hq).2.symm) (h.1 z hz)
   rw [h0,if_pos hx];exact Nat.le_refl _
  ·rw [if_neg hx];have:=bs_count (a:=a) h.2;omega
theorem DI.audit (hd: DI h ws bs): auditS h.S (ws++bs)=0:=by
 have hall: ∀ z ∈ ws++bs,wordS h.S z=true:=fun z hz=>by
  rcases List.mem_append.1 hz with hz | hz
  ·exact hd.wv z hz
  ·exact cy (hd.bv z hz).2.2
 have ha: allS h.S (ws++bs)=true:=List.all_eq_true.2 hall;have hbw: ∀ j ∈ blocksS h.S (ws++bs),∀ z ∈ wordsAt h.S j,wordS h.S z=true:=fun j hj z hz=>by
  obtain⟨b,hb⟩:=cR hj;rw [dA hb] at hz;exact hd.rv z (refsOf_mem.2 ⟨j,b,hb,hz⟩)
 refine audit_ok ha (noteB_fold _ _ hbw) (fun k j hk=>?_);have hjm:=List.mem_of_getElem? hk;obtain⟨b,hb⟩:=cR hjm;have hjl:=(List.getElem?_eq_some_iff.1 hb).1;unfold c0S;rw [← List.foldl_append];obtain⟨rest,hrest⟩:=eK (blocksS h.S (ws++bs)) h.S (blocksS_nodup _ _)
 generalize hfl:(blocksS h.S (ws++bs)).flatMap (wordsAt h.S)=fl at hrest ⊢
 have hfv: ∀ z ∈ fl,wordS h.S z=true:=fun z hz=>hd.rv z (hrest.mem_iff.2 (List.mem_append_left _ hz));have hn:=note_fold (n:=h.S.length) (ws++bs++fl) (List.replicate h.S.length 0,List.replicate h.S.length false) List.length_replicate List.length_replicate (fun z hz hr=>by
  rcases List.mem_append.1 hz with hz | hz
  ·exact cX (hall z hz) hr
  ·exact cX (hfv z hz) hr) j hjl
 have hpw:(ws++fl).Pairwise Sep:=by
  have h1:(ws++(fl++rest)).Pairwise Sep:=bU (List.Perm.append_left _ hrest) hd.pw;rw [← List.append_assoc] at h1;exact h1.sublist (List.sublist_append_left _ _)
 unfold badAt;rw [Bool.and_eq_false_iff,decide_eq_false_iff_not]
 cases hc:((ws++bs++fl).foldl noteW (List.replicate h.S.length 0,List.replicate h.S.length false)).2.getD j false with
 | false=>exact .inl rfl
 | true =>
  right
  have h0:(List.replicate h.S.length (0: Int)).getD j 0=0:=by rw [List.getD_eq_getElem?_getD,List.getElem?_replicate];split <;> rfl
  have h0':(List.replicate h.S.length false).getD j false=false:=by rw [List.getD_eq_getElem?_getD,List.getElem?_replicate];split <;> rfl
  rw [hn.1,h0]
  rcases hn.2 hc with h1 |⟨z,hz,h1,h2⟩
  ·rw [h0'] at h1;cases h1
  ·have hz2: z ∈ ws++fl:=by
    rcases List.mem_append.1 hz with hz | hz
    ·rcases List.mem_append.1 hz with hz | hz
     ·exact List.mem_append_left _ hz
     ·rw [(hd.bv z hz).2.1] at h2;cases h2
    ·exact List.mem_append_right _ hz
   have hone:=pw_one hpw ⟨z,hz2,h1,h2⟩;rw [List.countP_append] at hone;rw [List.countP_append,List.countP_append];have hbc:=bs_count (a:=(j: Int)) hd.bd
   by_cases hb0: bs.countP (refTo j)=0
   ·have hm: 1≤mostS h.S j:=by
     unfold mostS;rw [List.getD_eq_getElem?_getD,hb]
     show 1≤(match some b with | some (.var [] _)=>(2: Int) | _=>1)
     split <;> omega
    omega
   ·have hm: mostS h.S j=2:=by
     have: ∃ q ∈ bs,refTo j q=true:=by
      refine Classical.byContradiction fun hno=>hb0 (cP fun q hq=>?_)
      cases e: refTo j q with
      | false=>rfl
      | true=>exact absurd ⟨q,hq,e⟩ hno
     obtain⟨q,hq,hq2⟩:=this;have hq3:=(az (hd.bv q hq).2.2).2.2.2.1;have hq4:=(bL.1 hq2).2;rw [show q.n.toNat=j by omega] at hq3;unfold mostS;rw [List.getD_eq_getElem?_getD,hq3];rfl
    omega
theorem DI.shareB {l: List Wd} (hd: DI h pool bs) {j: Nat} (hj: h.S[j]? =some (some (.vec l))): DI (h.setB j (.vec (l.map shW))) (l.map shW++pool) bs:=by
 have hlt:=(List.getElem?_eq_some_iff.1 hj).1;have hsp:=bC hj;have hst:=cH (some (.vec (l.map shW))) hlt;have hS':(h.setB j (.vec (l.map shW))).S=h.S.set j (some (.vec (l.map shW))):=rfl;have hl64: l.length≤64:=(hd.ok.blk _ _ hj).1;have hok:=setB_ok (c:=.vec (l.map shW)) hd.ok hj (by show l.length+1=(l.map shW).length+1;rw [List.length_map]) (by show (l.map shW).length≤64;rw [List.length_map];exact hl64);have hlw: ∀ z ∈ l.map shW,wordS h.S z=true:=fun z hz=>by
  obtain⟨q,hq,rfl⟩:=List.mem_map.1 hz;exact fv (hd.rv q (hsp.mem_iff.2 (List.mem_append_left _ hq)))
 refine⟨hok,fun z hz=>?_,fun z hz=>?_,?_,fun z hz=>(hd.bv z hz).del (hd.bs_ne hj (fun _ e=>by cases e) z hz),hd.bd,fun i to hk hi=>?_⟩
 ·rw [hS'];refine cA hj rfl ?_
  rcases List.mem_append.1 hz with hz | hz
  ·exact hlw z hz
  ·exact hd.wv z hz
 ·rw [hS'] at hz ⊢;refine cA hj rfl ?_
  rcases List.mem_append.1 (hst.mem_iff.1 hz) with hz | hz
  ·exact hlw z hz
  ·exact hd.rv z (hsp.mem_iff.2 (List.mem_append_right _ hz))
 ·rw [hS'];have h1:(l++(pool++refsOf (h.S.set j none))).Pairwise Sep:=by
   refine bU ?_ hd.pw;refine(List.Perm.append_left _ hsp).trans ?_
   show (pool++(l++_)).Perm (l++(pool++_))
   rw [← List.append_assoc,← List.append_assoc];exact List.perm_append_comm.append_right _
  refine bU ?_ (pw_shall h1);refine List.Perm.trans ?_ (List.Perm.append_left _ hst.symm)
  show (l.map shW++(l.map shW++(pool++_))).Perm (l.map shW++pool++(l.map shW++_))
  rw [List.append_assoc];refine List.Perm.append_left _ ?_;rw [← List.append_assoc,← List.append_assoc];exact List.perm_append_comm.append_right _
 ·rw [hS'] at hi
  rcases bt hi with ⟨_,e⟩ |⟨_,h4⟩
  ·cases Option.some.inj e
  ·exact hd.hk i to hk h4
theorem set_perm {l: List Wd} {i: Nat} {y: Wd} (h: i < l.length):(l[i]::l.set i y).Perm (y::l):=by
 have a1:(l.set i y).Perm (y::l.eraseIdx i):=by
  have:=bB (l:=l.set i y) (i:=i) (by rw [List.length_set];exact h);rw [List.getElem_set_self,List.eraseIdx_set_eq] at this;exact this.symm
 exact(List.Perm.cons _ a1).trans ((List.Perm.swap _ _ _).trans (List.Perm.cons _ (bB h)))
theorem DI.update2 {l: List Wd} {i: Int} (hd: DI h (w::y::ws) bs) (hb: atS h.S w=some (.vec l)) (ho: w.one=false) (hi: 0≤i∧i < l.length):((h.update w i y).2.2.2.2=0→(h.update w i y).2.2.2.1=false∧DI (h.update w i y).1 (ws++ [(h.update w i y).2.1,(h.update w i y).2.2.1]++ [w]) bs)∧(¬(h.update w i y).2.2.2.2=0→(h.update w i y).1=h):=by
 obtain⟨g1,g2,g3,g4,g5⟩:=az hb;have hyw:=hd.wv y (List.mem_cons_of_mem _ List.mem_cons_self);have hlt: i.toNat < l.length:=by omega
 have hl64: l.length≤64:=(hd.ok.blk _ _ g4).1;obtain⟨b2,hb2⟩: ∃ b,b=PB.vec ((l.map shW).set i.toNat y):=⟨_,rfl⟩;have hbo: b2.ok:=by rw [hb2];show ((l.map shW).set i.toNat y).length≤64;rw [List.length_set,List.length_map];exact hl64
 have e: h.update w i y=if (h.place b2).2 < 0 then (h,(Wd.zero,Wd.zero,false,210)) else ((h.place b2).1.setB w.n.toNat (.vec (l.map shW)),(⟨6,(h.place b2).2,⟨#[]⟩,true⟩,shW (l.getD i.toNat Wd.zero),false,0)):=by
  unfold HS.update;rw [hb];dsimp only;rw [if_neg (by omega),if_neg (by rw [hyw];simp),if_neg (by rw [ho];simp),← hb2]
 rw [e]
 by_cases hp:(h.place b2).2 < 0
 ·rw [if_pos hp];exact⟨fun e=>absurd e (by show ¬(210: Int)=0;omega),fun _=>rfl⟩
 ·rw [if_neg hp];refine⟨fun _=>⟨rfl,?_⟩,fun e=>absurd rfl e⟩;dsimp only;obtain⟨n1,n2,n3⟩:=dp hd.ok hbo hp;have hd1:=hd.shareB g4;obtain⟨h1,hh1⟩: ∃ h1,h1=h.setB w.n.toNat (.vec (l.map shW)):=⟨_,rfl⟩;rw [← hh1] at hd1;have hpl:(h1.place b2).2=(h.place b2).2:=by rw [bu,bu,hh1];rfl
  have hcm:(h1.place b2).1=(h.place b2).1.setB w.n.toNat (.vec (l.map shW)):=by
   have hp':=hp;rw [bu] at hp';unfold HS.place;dsimp only;rw [hh1,if_neg hp',if_neg (show ¬ findS (h.setB w.n.toNat (.vec (l.map shW))).tk b2.size < 0 from hp')];unfold HS.setB;dsimp only;rw [List.set_comm];intro ee;rw [bu] at n3;exact n3 (.vec l) (by rw [← ee];exact g4)
  have hpool: DI h1 ((l.map shW).set i.toNat y++(shW (l.getD i.toNat Wd.zero)::w::ws)) bs:=by
   refine hd1.perm ?_;have hlm: i.toNat <(l.map shW).length:=by rw [List.length_map];exact hlt
   have hg: shW (l.getD i.toNat Wd.zero)=(l.map shW)[i.toNat]:=by rw [List.getElem_map,List.getD_eq_getElem?_getD,List.getElem?_eq_getElem hlt];rfl
   rw [hg];have p1:(l.map shW++(w::y::ws)).Perm ((y::l.map shW)++(w::ws)):=by
    rw [List.cons_append];refine List.Perm.trans (List.Perm.append_left _ (List.Perm.swap _ _ _)) ?_;exact List.perm_middle
   refine p1.trans ?_;refine((set_perm hlm).symm.append_right _).trans ?_;rw [List.cons_append];exact List.perm_middle.symm
  have:=DI.place hpool hbo (by rw [hb2];rfl) (fun _ _ e=>by rw [hb2] at e;cases e) (by rw [hpl];exact hp);rw [hcm,hpl] at this;rw [hb2] at this ⊢;refine this.perm ?_;refine List.Perm.trans ?_ (List.perm_append_comm (l₁:= [w]) (l₂:=ws++ [_,_]));refine List.Perm.trans ?_ (List.Perm.cons _ (List.perm_append_comm (l₁:= [_,_]) (l₂:=ws)));exact(List.Perm.cons _ (List.Perm.swap _ _ _)).trans (List.Perm.swap _ _ _)
end
end Go.Vk
namespace Go.Vk
open Go.RowKit
def takeP (ws: List Wd) (k: Int): Wd × List Wd:=if ws= [] then (⟨1,ixZ k 100,⟨#[]⟩,false⟩, []) else (ws.getD (ixZ k ws.length).toNat Wd.zero,ws.eraseIdx (ixZ k ws.length).toNat)
def shareP (ws: List Wd) (k: Int): Wd × List Wd:=if ws= [] then (⟨2,0,⟨#[97]⟩,false⟩, []) else (shW (ws.getD (ixZ k ws.length).toNat Wd.zero),ws.set (ixZ k ws.length).toNat (shW (ws.getD (ixZ k ws.length).toNat Wd.zero)))
theorem takeP_nil (k: Int): takeP [] k=(⟨1,ixZ k 100,⟨#[]⟩,false⟩, []):=if_pos rfl
theorem shareP_nil (k: Int): shareP [] k=(⟨2,0,⟨#[97]⟩,false⟩, []):=if_pos rfl
theorem takeP_at {ws: List Wd} {k: Int} {i: Nat} {x: Wd} (hi: ixZ k ws.length=(i: Int)) (hx: ws[i]? =some x): takeP ws k=(x,ws.eraseIdx i):=by
 unfold takeP;rw [if_neg (fun e=>by subst e;simp at hx),hi,Int.toNat_natCast,List.getD_eq_getElem?_getD,hx];rfl
theorem shareP_at {ws: List Wd} {k: Int} {i: Nat} {x: Wd} (hi: ixZ k ws.length=(i: Int)) (hx: ws[i]? =some x): shareP ws k=(shW x,ws.set i (shW x)):=by
 unfold shareP;rw [if_neg (fun e=>by subst e;simp at hx),hi,Int.toNat_natCast,List.getD_eq_getElem?_getD,hx];rfl
theorem bw (ws: List Wd) (k: Int):(takeP ws k).2.length≤ws.length:=by
 unfold takeP
 split
 ·exact Nat.zero_le _
 ·exact List.length_eraseIdx_le _ _
theorem shareP_len (ws: List Wd) (k: Int):(shareP ws k).2.length=ws.length:=by
 unfold shareP
 split
 ·rename_i h;rw [h]
 ·exact List.length_set
section
variable {h: HS} {ws bs pool: List Wd} {k: Int}
theorem ix100 (k: Int): 0≤ixZ k 100∧ixZ k 100 < 100:=by
 obtain⟨i,h1,h2⟩:=cE (k:=k) (n:=100) (m:=100) rfl (by omega);omega
theorem DI.take (hd: DI h (ws++pool) bs) (k: Int): DI h ((takeP ws k).1::((takeP ws k).2++pool)) bs:=by
 by_cases h0: ws= []
 ·subst h0;rw [takeP_nil];have:=ix100 k;refine hd.lit ?_ rfl;unfold wordS;rw [if_pos rfl];simp only [Bool.and_eq_true,decide_eq_true_eq];exact⟨⟨⟨by first | rfl | trivial,rfl⟩,by show -2147483647≤ixZ k 100;omega⟩,by show ixZ k 100≤2147483647;omega⟩
 ·have hl: 0 < ws.length:=List.length_pos_iff.2 h0;obtain⟨i,h1,h2⟩:=cE (k:=k) (n:=(ws.length: Int)) (m:=ws.length) rfl hl;rw [takeP_at h1 (List.getElem?_eq_getElem h2)];refine hd.perm ?_;rw [← List.cons_append];exact(bB h2).symm.append_right _
theorem DI.shareW (hd: DI h (ws++pool) bs) (k: Int): DI h ((shareP ws k).1::((shareP ws k).2++pool)) bs:=by
 by_cases h0: ws= []
 ·subst h0;rw [shareP_nil];exact hd.lit (by show wordS h.S ⟨2,0,⟨#[97]⟩,false⟩ =true;unfold wordS;rw [if_neg (by show ¬(2: Int)=1;omega),if_pos rfl];rfl) rfl
 ·have hl: 0 < ws.length:=List.length_pos_iff.2 h0;obtain⟨i,h1,h2⟩:=cE (k:=k) (n:=(ws.length: Int)) (m:=ws.length) rfl hl;rw [shareP_at h1 (List.getElem?_eq_getElem h2)];have p1:(ws++pool).Perm (ws[i]::(ws.eraseIdx i++pool)):=by
   rw [← List.cons_append];exact(bB h2).symm.append_right _
  refine((hd.perm p1).share).perm (List.Perm.cons _ ?_);rw [← List.cons_append];refine List.Perm.append_right _ ?_;have:=bB (l:=ws.set i (shW ws[i])) (i:=i) (by rw [List.length_set];exact h2)
  rwa [List.getElem_set_self,List.eraseIdx_set_eq] at this
end
def HD (q p: Nat) (ws bs: List Wd) (L: List Ent): Prop:= ∃(Aw: Option Addr) (cw: Nat) (Ab: Option Addr) (cb: Nat) (ew eb: Ent),L= [(some q,.cells #[.pointer (some ⟨p,0,none⟩),.slice Aw ws.length cw,.slice Ab bs.length cb,.bool true] 70 (0,0)),ew,eb]∧Row (.slice Aw ws.length cw) ew 34 4 ws.length (gfl Wd.cells ws)∧Row (.slice Ab bs.length cb) eb 34 4 bs.length (gfl Wd.cells bs)
def HM (q p: Nat) (ws bs: List Wd) (h: HS) (L: List Ent): Prop:= ∃ Lt Lh,L=Lt++Lh∧HD q p ws bs Lt∧HK p h Lh
theorem HM.blk {q p: Nat} {ws bs: List Wd} {h: HS} {L: List Ent} (hM: HM q p ws bs h L): ∃(A1: Option Addr) (n1 c1: Nat) (A2: Option Addr) (n2 c2: Nat),((some q,.cells #[.pointer (some ⟨p,0,none⟩),.slice A1 n1 c1,.slice A2 n2 c2,.bool true] 70 (0,0)): Ent) ∈ L:=by
 obtain⟨Lt,Lh,rfl,⟨Aw,cw,Ab,cb,ew,eb,rfl,_,_⟩,_⟩:=hM;exact⟨_,_,_,_,_,_,List.mem_append_left _ List.mem_cons_self⟩
theorem ef (ws: List Wd) (w: Wd) (e: Int):(holdP ws w e).length≤ws.length+1:=by
 unfold holdP
 split
 ·rw [List.length_append];exact Nat.le_refl _
 ·omega
theorem rowW_release {w0 w: World} {H0 H: PHeap} {L0 L: List Ent} {A: Option Addr} {c e: Nat} {en: Ent} {xs: List Wd} (hR: Row (.slice A xs.length c) en e 4 xs.length (gfl Wd.cells xs)) (hS: Step w0 H0 L0 w H (en::L)) (hl: xs.length≤1048576) :
  ∃ H',Step w0 H0 L0 w H' L∧Le H H'∧RowG 4 Wd.cells H' A c xs:=by
 by_cases hne: xs= []
 ·subst hne;exact⟨H,hS.drop,Le.refl _,Nat.zero_le _,by simp,0,0,0,#[],(0,0),fun hn=>absurd rfl hn,fun j x hj=>by simp at hj⟩
 ·have h0: 0 < xs.length:=List.length_pos_iff.2 hne;obtain⟨x0,b,cap,cur,hx0,hv,rfl,hc0⟩:=hR.getG Wd.len (by decide) (j:=0) h0;injection hv with e1 e2 e3
  subst e1 e3;obtain⟨hS2,hle⟩:=hS.release;refine⟨_,hS2,hle,Row.cap hR,hl,b,0,e,cur,(0,0),fun _=>⟨rfl,?_⟩,fun j x hj i u hu=>?_⟩
  ·unfold PHeap.put;simp
  ·obtain⟨x1,b1,cap1,cur1,hx1,hv1,he1,hc1⟩:=hR.getG Wd.len (by decide) (j:=j) (List.getElem?_eq_some_iff.1 hj).1;injection he1 with e4 e5
   injection e5 with e6
   subst e6;rw [hj] at hx1;obtain rfl:=Option.some.inj hx1;exact hc1 i u hu
end Go.Vk
namespace Go.Vk.Try
open Go.RowKit
theorem eF {w0: World} {H: PHeap} (hI: Inv w0 H []) {A: Option Addr} {c: Nat} {xs: List Wd} (hr: RdG 4 Wd.cells w0 [] A c xs): Calls prog 75 #[(.slice A xs.length c)] w0 (RW w0 H xs):=by
 have hS:=Step.refl hI;have hlr:=hr.hm;refine enter [(.slice A xs.length c)] func75 rfl ntmps75 rfl fun a ha=>?_;refine wp_seq (ab (Ls rfl ha fun a ha=>?_));refine wpList_nil (aa (wp_seq (wp_seq (ab (Lm rfl ha fun a ha=>?_)))));refine lin rfl (o_eqnil T29.und ha rfl rfl rfl fun a ha=>?_);refine wpList_nil (aa (ar (t:=4) ha rfl (fun h1 ha=>?_) (fun h1 ha=>?_)))
 ·refine ao ha rfl (wp_seq (ab (Ls rfl ha fun a ha=>?_)));refine wpList_nil (aa (wp_ret (ah (ret1 rfl ha rfl ?_))));obtain rfl: A=none:=by simpa using h1
  obtain rfl: xs= []:=by
   obtain⟨b,off,e,cs,fz,h3,h4⟩:=hr.rd;exact Classical.byContradiction fun hne=>by have h_:=(h3 hne).1;cases h_
  exact⟨none,0,noEnt,rfl,Row.nil _ _,hS.cons_none rfl⟩
 ·refine ai ha rfl (wp_skip (aa (wp_seq (ab (lin rfl (aY (vs:= []) (cells:= []) T29.und T34 hS ha (ha.evp rfl) rfl rfl rfl rfl fun b2 a w hS ha=>?_))))));refine Lm rfl ha fun a ha=>?_;obtain⟨brd5,offrd5,erd5,csrd5,fzrd5,h1rd5,h2rd5⟩:=hr.rd;refine lin rfl (aJ (news:=(gfl Wd.cells xs)) (xs:= []) T29.und T34 rfl rfl hS (Row.empty b2 34 4) ha rfl rfl (au Wd.len _) (fun hn=>⟨brd5,offrd5,erd5,csrd5,fzrd5,(h1rd5 (fun h_=>hn (by rw [h_];rfl))).1,hS.keepN (h1rd5 (fun h_=>hn (by rw [h_];rfl))).2.1 (h1rd5 (fun h_=>hn (by rw [h_];rfl))).2.2,fun j u hj=>a6 Wd.len (by decide) h2rd5 hj⟩) (aQ Wd.one' _) (by omega) rfl rfl fun v4 en4 a w hR4 hS ha=>?_);rw [List.nil_append] at hR4;obtain⟨A4,c4,rfl⟩:=hR4.slice;refine Ls rfl ha fun a ha=>?_;refine wpList_nil (aa (wp_ret (ret1 rfl ha rfl ?_)));rw [Nat.zero_add] at hR4;exact⟨_,_,_,by rw [Nat.zero_add],hR4,hS⟩
theorem c_GrowW {w0: World} {H: PHeap} (hI: Inv w0 H []) {n: Int} (h0: 0≤n) (h1: n≤2513169434916): Calls prog 108 #[(.slice none 0 0),(iV n)] w0 (fun e w'=> ∃ A c en,e=.returned (.slice A 0 c)∧Row (.slice A 0 c) en 34 4 0 []∧Step w0 H [] w' H [en]):=by
 have hS:=Step.refl hI;refine enter [(.slice none 0 0),(iV n)] func108 rfl ntmps108 rfl fun a ha=>?_;refine wp_seq (ab (Ls rfl ha fun a ha=>?_));refine wpList_nil (aa (wp_seq (wp_seq (ab (Lm rfl ha fun a ha=>?_)))));refine lin rfl (bm (i:=n) (j:=0) ha rfl rfl rfl fun a ha=>?_);refine wpList_nil (aa (an (t:=6) ha rfl (fun h1 ha=>?_) (fun h1 ha=>?_)))
 ·refine ao ha rfl ?_
  exfalso;omega
 ·refine ai ha rfl (wp_skip (aa (wp_seq (wp_seq (ab (Lm rfl ha fun a ha=>?_))))));refine Lm rfl ha fun a ha=>?_;refine lin rfl (o_cap T29.und ha rfl rfl fun a ha=>?_);refine Lm rfl ha fun a ha=>?_;refine lin rfl (aK T29.und ha rfl rfl fun a ha=>?_);refine lin rfl (cS (i:=((0: Nat): Int)) (j:=((0: Nat): Int)) ha rfl rfl rfl (by omega) fun a ha=>?_);refine lin rfl (cS (i:=n) (j:=(((0: Nat): Int) - ((0: Nat): Int))) ha rfl rfl rfl (by omega) fun a ha=>?_);refine Ls rfl ha fun a ha=>?_;refine wpList_nil (aa (wp_seq (ab (Lm rfl ha fun a ha=>?_))));refine lin rfl (cK (i:=(n - (((0: Nat): Int) - ((0: Nat): Int)))) (j:=0) ha rfl rfl rfl fun a ha=>?_);refine wpList_nil (aa (an (t:=16) ha rfl (fun h2 ha=>?_) (fun h2 ha=>?_)))
  ·obtain⟨q,hq⟩: ∃ q: Nat,(n - (((0: Nat): Int) - ((0: Nat): Int)))=((q: Nat): Int):=⟨((n - (((0: Nat): Int) - ((0: Nat): Int)))).toNat,by omega⟩;rw [hq] at ha;refine ao ha rfl (ab (Lm rfl ha fun a ha=>?_));refine Lm rfl ha fun a ha=>?_;refine lin rfl (o_cap T29.und ha rfl rfl fun a ha=>?_);refine lin rfl (dR (h:=0) T29.und T34 ha rfl rfl (by omega) (by omega) rfl fun a ha=>?_);refine Lm rfl ha fun a ha=>?_;have hS:=hS.cons_none (en:=noEnt) rfl;refine lin rfl (o_appendZ (k:=q) (xs:= []) T29.und T3.und T34 rfl rfl rfl hS (Row.nil 34 4) ha rfl rfl (by omega) rfl rfl fun v3 en3 a w hR3 hS ha=>?_);rw [List.nil_append] at hR3;obtain⟨A3,c3,rfl⟩:=hR3.slice;refine Lm rfl ha fun a ha=>?_;refine lin rfl (aK T29.und ha rfl rfl fun a ha=>?_);refine lin rfl (dR (h:=0) T29.und T34 ha rfl rfl (by omega) (by omega) rfl fun a ha=>?_);have hR5:=Row.cut (k:=0) hR3 (by omega)
   first | rw [cZ Wd.len] at hR5 | rw [Nat.zero_mul,List.take_zero] at hR5
   refine Ls rfl ha fun a ha=>?_;refine wpList_nil (aa (wp_seq (ab (Lm rfl ha fun a ha=>?_))));refine Ls rfl ha fun a ha=>?_;refine wpList_nil (aa (wp_ret (ret1 rfl ha rfl ?_)));exact⟨_,_,_,rfl,hR5,hS⟩
  ·refine ai ha rfl (wp_skip (aa (wp_seq (ab (Lm rfl ha fun a ha=>?_)))));refine Ls rfl ha fun a ha=>?_;refine wpList_nil (aa (wp_ret (ret1 rfl ha rfl ?_)));exact⟨none,0,noEnt,rfl,Row.nil _ _,hS.cons_none rfl⟩
def pre2 {α: Type} (ts us: List α) (k: Nat): List α:=(if 1≤k then ts else [])++(if 2≤k then us else [])
theorem pre2_len {α: Type} (ts us: List α) (k: Nat):(pre2 ts us k).length≤ts.length+us.length:=by
 unfold pre2;rw [List.length_append]
 split <;> split <;> simp <;> omega
theorem pre2_2 {α: Type} (ts us: List α): pre2 ts us 2=ts++us:=by simp [pre2]
theorem c_ConcatW {w0: World} {H: PHeap} (hI: Inv w0 H []) {bb: Nat} {A: Option Addr} {c: Nat} {ws: List Wd} {A': Option Addr} {c': Nat} {us: List Wd} (hbb: H bb=some (.cells #[.slice A ws.length c,.slice A' us.length c'] 29 (0,0))) (hr: RdG 4 Wd.cells w0 [] A c ws) (hr': RdG 4 Wd.cells w0 [] A' c' us): Calls prog 83 #[(.slice (some ⟨bb,0,none⟩) 2 2)] w0 (RW w0 H (ws++us)):=by
 have hS:=Step.refl hI;have hlr:=hr.hm;have hlr':=hr'.hm;refine enter [(.slice (some ⟨bb,0,none⟩) 2 2)] func83 rfl ntmps83 rfl fun a ha=>?_;refine wp_seq (ab (Ls rfl ha fun a ha=>?_));refine wpList_nil (aa (wp_seq (ab (Ls rfl ha fun a ha=>?_))));refine wpList_nil (aa (wp_seq (wp_seq (ab (Lm rfl ha fun a ha=>?_)))));refine lin rfl (aK T166.und ha rfl rfl fun a ha=>?_);refine Lm rfl ha fun a ha=>?_;refine wpList_nil (aa (wp_block ?_));refine bn (fun nn_ a w=> ∃(k: Nat),nn_=2 - k∧Has [] a 36 [(0,(.slice (some ⟨bb,0,none⟩) 2 2)),(3,(iV (((pre2 ws us k).length: Nat): Int))),(9,(.slice (some ⟨bb,0,none⟩) 2 2)),(10,(iV ((2: Nat): Int))),(11,(iV ((k: Nat): Int)))]∧Step w0 H [] w H []∧(k≤2)) _ ⟨0,rfl,ha.pk rfl,hS,by omega⟩ ?_;intro n1 a w hh;obtain⟨k,hn1,ha,hS,hk⟩:=hh;refine wp_seq (ab (lin rfl (bm (i:=((k: Nat): Int)) (j:=((2: Nat): Int)) ha rfl rfl rfl fun a ha=>?_)));refine wpList_nil (aa (wp_seq (an (t:=12) ha rfl (fun h2 ha=>?_) (fun h2 ha=>?_))))
 ·refine ao ha rfl (wp_skip (aa (wp_seq ?_)))
  rcases (show k=0∨k=1 by omega) with rfl | rfl
  ·have hp_:(pre2 ws us 0).length=0:=by simp [pre2]
   refine wp_block (wp_seq (ab (lin rfl (aD (b:=bb) (o:=0) (j:=0) T166.und T29 rfl ha rfl rfl (by omega) (by omega) rfl fun a ha=>?_))));refine lin rfl (af (v:=(.slice A ws.length c)) T29 rfl ha rfl (hS.blkH hbb) rfl rfl fun a ha=>?_);refine Ls rfl ha fun a ha=>?_;refine wpList_nil (aa (wp_seq (ab (Lm rfl ha fun a ha=>?_))));refine Lm rfl ha fun a ha=>?_;refine lin rfl (aK T29.und ha rfl rfl fun a ha=>?_);refine lin rfl (aM (i:=(((pre2 ws us 0).length: Nat): Int)) (j:=((ws.length: Nat): Int)) ha rfl rfl rfl (by omega) fun a ha=>?_);refine Ls rfl ha fun a ha=>?_;refine wpList_nil (aa (wp_seq (ab (Lm rfl ha fun a ha=>?_))));refine lin rfl (bm (i:=((((pre2 ws us 0).length: Nat): Int)+((ws.length: Nat): Int))) (j:=0) ha rfl rfl rfl fun a ha=>?_);refine wpList_nil (aa (an (t:=20) ha rfl (fun h3 ha=>?_) (fun h3 ha=>?_)))
   ·refine ao ha rfl ?_
    exfalso;omega
   ·refine ai ha rfl (wp_skip (ap (aa (ab (lin rfl (aM (i:=((0: Nat): Int)) (j:=1) ha rfl rfl rfl (by omega) fun a ha=>?_))))));refine Lm rfl ha fun a ha=>?_;refine wpList_nil (aa (?_));exact⟨2 - 1,by omega,1,rfl,Has.cons ha rfl (Has.cons ha (by simp [lk,Nat.beq,pre2]) (ha.pk rfl)),hS,(by omega)⟩
  ·have hp_:(pre2 ws us 1).length=ws.length:=by simp [pre2]
   refine wp_block (wp_seq (ab (lin rfl (aD (b:=bb) (o:=0) (j:=1) T166.und T29 rfl ha rfl rfl (by omega) (by omega) rfl fun a ha=>?_))));refine lin rfl (af (v:=(.slice A' us.length c')) T29 rfl ha rfl (hS.blkH hbb) rfl rfl fun a ha=>?_);refine Ls rfl ha fun a ha=>?_;refine wpList_nil (aa (wp_seq (ab (Lm rfl ha fun a ha=>?_))));refine Lm rfl ha fun a ha=>?_;refine lin rfl (aK T29.und ha rfl rfl fun a ha=>?_);refine lin rfl (aM (i:=(((pre2 ws us 1).length: Nat): Int)) (j:=((us.length: Nat): Int)) ha rfl rfl rfl (by omega) fun a ha=>?_);refine Ls rfl ha fun a ha=>?_;refine wpList_nil (aa (wp_seq (ab (Lm rfl ha fun a ha=>?_))));refine lin rfl (bm (i:=((((pre2 ws us 1).length: Nat): Int)+((us.length: Nat): Int))) (j:=0) ha rfl rfl rfl fun a ha=>?_);refine wpList_nil (aa (an (t:=20) ha rfl (fun h4 ha=>?_) (fun h4 ha=>?_)))
   ·refine ao ha rfl ?_
    exfalso;omega
   ·refine ai ha rfl (wp_skip (ap (aa (ab (lin rfl (aM (i:=((1: Nat): Int)) (j:=1) ha rfl rfl rfl (by omega) fun a ha=>?_))))));refine Lm rfl ha fun a ha=>?_;refine wpList_nil (aa (?_));exact⟨2 - 2,by omega,2,rfl,Has.cons ha rfl (Has.cons ha (by simp [lk,Nat.beq,pre2]) (ha.pk rfl)),hS,(by omega)⟩
 ·refine ai ha rfl (wp_exit (aA (aA (aV (aa (wp_seq (ab (Lm rfl ha fun a ha=>?_))))))));have hpl_:=pre2_len ws us k;refine lin rfl (Co func108 ha rfl (c_GrowW (n:=(((pre2 ws us k).length: Nat): Int)) hS.inv.nil (by omega) (by omega)) ?_);rintro e w ⟨A5,c5,en5,rfl,hR5,hc⟩;refine⟨_,rfl,fun a ha=>?_⟩;have hS:=hS.call_own hc;have hR5: Row (.slice A5 ([]: List Wd).length c5) en5 34 4 ([]: List Wd).length (gfl Wd.cells []):=hR5;refine Ls rfl ha fun a ha=>?_;refine wpList_nil (aa (wp_seq (wp_seq (ab (Lm rfl ha fun a ha=>?_)))));refine lin rfl (aK T166.und ha rfl rfl fun a ha=>?_);refine Lm rfl ha fun a ha=>?_;refine wpList_nil (aa (wp_block (bn (fun nn_ a w=> ∃(q: Nat),∃(xs_0: List Wd),∃(en_0: Ent),∃(A_0: Option Addr),∃(c_0: Nat),nn_=2 - q∧Has [] a 36 [(6,(.slice A_0 xs_0.length c_0)),(25,(.slice (some ⟨bb,0,none⟩) 2 2)),(26,(iV ((2: Nat): Int))),(27,(iV ((q: Nat): Int)))]∧Step w0 H [] w H [en_0]∧(Row (.slice A_0 xs_0.length c_0) en_0 34 4 xs_0.length (gfl Wd.cells xs_0))∧(xs_0=pre2 ws us q)∧(q≤2)) _ ⟨0,([]: List Wd),en5,A5,c5,rfl,ha.pk rfl,hS,(by simpa using hR5),rfl,(by omega)⟩ ?_)));intro n7 a w hh;obtain⟨q,xs_0,en_0,A_0,c_0,hn7,ha,hS,hR_0,hm,hk⟩:=hh;refine wp_seq (ab (lin rfl (bm (i:=((q: Nat): Int)) (j:=((2: Nat): Int)) ha rfl rfl rfl fun a ha=>?_)));refine wpList_nil (aa (wp_seq (an (t:=28) ha rfl (fun h8 ha=>?_) (fun h8 ha=>?_))))
  ·refine ao ha rfl (wp_skip (aa (wp_seq ?_)))
   rcases (show q=0∨q=1 by omega) with rfl | rfl
   ·have hp_:(pre2 ws us 0).length=0:=by simp [pre2]
    have hxl_: xs_0.length=_:=congrArg List.length hm;refine wp_block (wp_seq (ab (lin rfl (aD (b:=bb) (o:=0) (j:=0) T166.und T29 rfl ha rfl rfl (by omega) (by omega) rfl fun a ha=>?_))));refine lin rfl (af (v:=(.slice A ws.length c)) T29 rfl ha rfl (hS.blkH hbb) rfl rfl fun a ha=>?_);refine Ls rfl ha fun a ha=>?_;refine wpList_nil (aa (ab (Lm rfl ha fun a ha=>?_)));refine Lm rfl ha fun a ha=>?_;obtain⟨brd10,offrd10,erd10,csrd10,fzrd10,h1rd10,h2rd10⟩:=hr.rd;refine lin rfl (aJ (news:=(gfl Wd.cells ws)) (xs:=(gfl Wd.cells xs_0)) T29.und T34 rfl rfl hS hR_0 ha rfl rfl (au Wd.len _) (fun hn=>⟨brd10,offrd10,erd10,csrd10,fzrd10,(h1rd10 (fun h_=>hn (by rw [h_];rfl))).1,hS.keepN (h1rd10 (fun h_=>hn (by rw [h_];rfl))).2.1 (h1rd10 (fun h_=>hn (by rw [h_];rfl))).2.2,fun j u hj=>a6 Wd.len (by decide) h2rd10 hj⟩) (aQ Wd.one' _) (by omega) rfl rfl fun v9 en9 a w hR9 hS ha=>?_);rw [← aF] at hR9;obtain⟨A9,c9,rfl⟩:=hR9.slice;have hn_:(xs_0.length+ws.length)=(xs_0++ws).length:=by have h_:=hR9.1;rw [au Wd.len] at h_;omega
    rw [show Value.slice A9 (xs_0.length+ws.length) c9=Value.slice A9 (xs_0++ws).length c9 from by rw [hn_]] at ha;rw [hn_] at hR9;refine Ls rfl ha fun a ha=>?_;refine wpList_nil (ap (aa (ab (lin rfl (aM (i:=((0: Nat): Int)) (j:=1) ha rfl rfl rfl (by omega) fun a ha=>?_)))));refine Lm rfl ha fun a ha=>?_;refine wpList_nil (aa (?_));exact⟨2 - 1,by omega,1,(xs_0++ws),en9,A9,c9,rfl,ha.pk rfl,hS,hR9,(by rw [hm];simp [pre2]),(by omega)⟩
   ·have hp_:(pre2 ws us 1).length=ws.length:=by simp [pre2]
    have hxl_: xs_0.length=_:=congrArg List.length hm;refine wp_block (wp_seq (ab (lin rfl (aD (b:=bb) (o:=0) (j:=1) T166.und T29 rfl ha rfl rfl (by omega) (by omega) rfl fun a ha=>?_))));refine lin rfl (af (v:=(.slice A' us.length c')) T29 rfl ha rfl (hS.blkH hbb) rfl rfl fun a ha=>?_);refine Ls rfl ha fun a ha=>?_;refine wpList_nil (aa (ab (Lm rfl ha fun a ha=>?_)));refine Lm rfl ha fun a ha=>?_;obtain⟨brd12,offrd12,erd12,csrd12,fzrd12,h1rd12,h2rd12⟩:=hr'.rd;refine lin rfl (aJ (news:=(gfl Wd.cells us)) (xs:=(gfl Wd.cells xs_0)) T29.und T34 rfl rfl hS hR_0 ha rfl rfl (au Wd.len _) (fun hn=>⟨brd12,offrd12,erd12,csrd12,fzrd12,(h1rd12 (fun h_=>hn (by rw [h_];rfl))).1,hS.keepN (h1rd12 (fun h_=>hn (by rw [h_];rfl))).2.1 (h1rd12 (fun h_=>hn (by rw [h_];rfl))).2.2,fun j u hj=>a6 Wd.len (by decide) h2rd12 hj⟩) (aQ Wd.one' _) (by omega) rfl rfl fun v11 en11 a w hR11 hS ha=>?_);rw [← aF] at hR11;obtain⟨A11,c11,rfl⟩:=hR11.slice;have hn_:(xs_0.length+us.length)=(xs_0++us).length:=by have h_:=hR11.1;rw [au Wd.len] at h_;omega
    rw [show Value.slice A11 (xs_0.length+us.length) c11=Value.slice A11 (xs_0++us).length c11 from by rw [hn_]] at ha;rw [hn_] at hR11;refine Ls rfl ha fun a ha=>?_;refine wpList_nil (ap (aa (ab (lin rfl (aM (i:=((1: Nat): Int)) (j:=1) ha rfl rfl rfl (by omega) fun a ha=>?_)))));refine Lm rfl ha fun a ha=>?_;refine wpList_nil (aa (?_));exact⟨2 - 2,by omega,2,(xs_0++us),en11,A11,c11,rfl,ha.pk rfl,hS,hR11,(by rw [hm];simp [pre2]),(by omega)⟩
  ·refine ai ha rfl (wp_exit (aA (aA (aV (aa (wp_seq (ab (Lm rfl ha fun a ha=>?_))))))));refine Ls rfl ha fun a ha=>?_;refine wpList_nil (aa (wp_ret (ret1 rfl ha rfl ?_)));obtain rfl: q=2:=by omega
   rw [pre2_2] at hm;subst hm;exact⟨_,_,_,rfl,hR_0,hS⟩
theorem c_ptake {w0: World} {H: PHeap} {q p: Nat} {ws bs: List Wd} {L: List Ent} (hI: Inv w0 H L) (hD: HD q p ws bs L) (hlw: ws.length≤100000) (hlb: bs.length≤100000) {k: Int}: Calls prog 73 #[(pB q),(iV k)] w0 (fun e w'=> ∃ L',e=.returned (wv (takeP ws k).1)∧HD q p (takeP ws k).2 bs L'∧Step w0 H L w' H L'):=by
 obtain⟨Aw,cw,Ab,cb,ew,eb,rfl,hRw,hRb⟩:=hD;have hS:=Step.refl hI;have hcw_:=Row.cap hRw;have hcb_:=Row.cap hRb;refine enter [(pB q),(iV k)] func73 rfl ntmps73 rfl fun a ha=>?_;refine wp_seq (ab (lin rfl (aE (cs:= #[(iV 0),(iV 0),(.string (⟨#[]⟩)),(.bool false)]) T34 hS ha rfl rfl fun b1 a w hS ha=>?_)));refine wpList_nil (aa (wp_seq (wp_seq (ab (Lm rfl ha fun a ha=>?_)))));refine lin rfl (aw ha rfl rfl fun a ha=>?_);refine lin rfl (ac (f:=1) (o2:=1) T70 T29 rfl rfl rfl rfl ha rfl rfl fun a ha=>?_);refine lin rfl (af (v:=(.slice Aw ws.length cw)) T29 rfl ha rfl (hS.blkL 1 rfl) rfl rfl fun a ha=>?_);refine lin rfl (aK T29.und ha rfl rfl fun a ha=>?_);refine lin rfl (bq (i:=((ws.length: Nat): Int)) (j:=0) ha rfl rfl rfl fun a ha=>?_);refine wpList_nil (aa (an (t:=12) ha rfl (fun h3 ha=>?_) (fun h3 ha=>?_)))
 ·refine ao ha rfl (wp_seq (ab (Lm rfl ha fun a ha=>?_)));have hk5:=dh (k:=k) (n:=100) hS.inv.nil (by omega);refine lin rfl (Co func11 ha rfl (hk5) ?_);rintro e w ⟨rfl,hc⟩;obtain⟨i4,hi4⟩: ∃ i_: Int,ixZ k 100=i_:=⟨_,rfl⟩;have hix_:=hi4;rw [hi4];refine⟨_,rfl,fun a ha=>?_⟩;have hS:=hS.call hc;refine lin rfl (aG (vs:= [(0,(iV 1)),(1,(iV i4))]) (cells:= [(iV 1),(iV i4),(.string (⟨#[]⟩)),(.bool false)]) T34 PL34 ha (ha.evp rfl) rfl rfl fun a ha=>?_);refine lin rfl (aj (cs':= #[(iV 1),(iV i4),(.string (⟨#[]⟩)),(.bool false)]) T34 hS (i:=0) rfl ha rfl rfl rfl rfl rfl rfl fun a w hS ha=>?_);refine wpList_nil (aa (wp_ret (ah (retA (i:=0) (cs:= #[(iV 1),(iV i4),(.string (⟨#[]⟩)),(.bool false)]) rfl T34 rfl hS rfl ha rfl rfl ?_))));have hS:=hS.drop;obtain rfl: ws= []:=List.eq_nil_of_length_eq_zero (by omega);rw [takeP_nil];exact⟨_,by rw [hix_],⟨_,_,_,_,_,_,rfl,hRw,hRb⟩,hS⟩
 ·refine ai ha rfl (wp_skip (aa (wp_seq (ab (Lm rfl ha fun a ha=>?_)))));refine Lm rfl ha fun a ha=>?_;refine lin rfl (aw ha rfl rfl fun a ha=>?_);refine lin rfl (ac (f:=1) (o2:=1) T70 T29 rfl rfl rfl rfl ha rfl rfl fun a ha=>?_);refine lin rfl (af (v:=(.slice Aw ws.length cw)) T29 rfl ha rfl (hS.blkL 1 rfl) rfl rfl fun a ha=>?_);refine lin rfl (aK T29.und ha rfl rfl fun a ha=>?_);have hk7:=dh (k:=k) (n:=((ws.length: Nat): Int)) hS.inv.nil (by omega);refine lin rfl (Co func11 ha rfl (hk7) ?_);rintro e w ⟨rfl,hc⟩;obtain⟨i6,hi6,hli6⟩:=cE (k:=k) (n:=((ws.length: Nat): Int)) (m:=ws.length) (by omega) (by omega);rw [hi6];refine⟨_,rfl,fun a ha=>?_⟩;have hS:=hS.call hc;refine Ls rfl ha fun a ha=>?_;refine wpList_nil (aa (wp_seq (ab (Lm rfl ha fun a ha=>?_))));refine lin rfl (aw ha rfl rfl fun a ha=>?_);refine lin rfl (ac (f:=1) (o2:=1) T70 T29 rfl rfl rfl rfl ha rfl rfl fun a ha=>?_);refine lin rfl (af (v:=(.slice Aw ws.length cw)) T29 rfl ha rfl (hS.blkL 1 rfl) rfl rfl fun a ha=>?_);refine Lm rfl ha fun a ha=>?_;obtain⟨x8,b8,cap8,cur8,hx8,hv8,he8,hc8⟩:=Row.getG Wd.len (by decide) hRw (j:=i6) (by omega);have hA8:(Aw: Option Addr)=some ⟨b8,0,none⟩:=by injection hv8
  refine lin rfl (aD (b:=b8) (o:=0) (j:=i6) T29.und T34 hA8 ha rfl rfl (by omega) (by omega) rfl fun a ha=>?_);refine lin rfl (al (vs:=(wL x8)) T34 rfl ha rfl (hS.blkL 2 (b:=b8) (o:=.cells cur8 34 (0,0)) (by rw [← he8];rfl)) rfl hc8 rfl fun a ha=>?_);refine lin rfl (aE (cs:= #[(iV 0),(iV 0),(.string (⟨#[]⟩)),(.bool false)]) T34 hS ha rfl rfl fun b9 a w hS ha=>?_);refine lin rfl (aj (cs':=(wA x8)) T34 hS (i:=0) rfl ha rfl rfl rfl rfl rfl rfl fun a w hS ha=>?_);refine wpList_nil (aa (wp_seq (ab (Lm rfl ha fun a ha=>?_))));refine Lm rfl ha fun a ha=>?_;refine lin rfl (aw ha rfl rfl fun a ha=>?_);refine lin rfl (ac (f:=1) (o2:=1) T70 T29 rfl rfl rfl rfl ha rfl rfl fun a ha=>?_);refine lin rfl (af (v:=(.slice Aw ws.length cw)) T29 rfl ha rfl (hS.blkL 2 rfl) rfl rfl fun a ha=>?_);have hk12:=eF hS.inv.nil (RdG.of_mem Wd.len (by decide) hS.inv (List.mem_of_getElem? (i:=3) rfl) hRw (by omega));refine lin rfl (Co func75 ha rfl (hk12) ?_);rintro e w ⟨A11,c11,en11,rfl,hR11,hc⟩;refine⟨_,rfl,fun a ha=>?_⟩;have hS:=hS.call_own hc;refine Lm rfl ha fun a ha=>?_;refine Lm rfl ha fun a ha=>?_;refine lin rfl (aM (i:=((i6: Nat): Int)) (j:=1) ha rfl rfl rfl (by omega) fun a ha=>?_);have hk15:=c_DeleteW (i:=i6) hS.inv.one hR11 (by omega) rfl rfl;refine lin rfl (Co func13 ha rfl (hk15) ?_);rintro e w ⟨en14,rfl,hR14,hc⟩;rw [show ws.length - 1=(ws.eraseIdx i6).length from by rw [List.length_eraseIdx,if_pos (by omega)]] at hR14 ⊢;refine⟨_,rfl,fun a ha=>?_⟩;have hS:=hS.call_one hc;refine lin rfl (aw ha rfl rfl fun a ha=>?_);refine lin rfl (ac (f:=1) (o2:=1) T70 T29 rfl rfl rfl rfl ha rfl rfl fun a ha=>?_);refine lin rfl (aj (cs':=(hA p A11 ((ws.eraseIdx i6).length) c11 Ab bs.length cb)) T29 hS (i:=3) rfl ha rfl rfl rfl rfl rfl rfl fun a w hS ha=>?_);refine wpList_nil (aa (wp_seq (ab (lin rfl (al (vs:=(wL x8)) T34 rfl ha rfl (hS.blkL 1 rfl) rfl (ag rfl) rfl fun a ha=>?_)))));refine lin rfl (aj (cs':=(wA x8)) T34 hS (i:=2) rfl ha rfl rfl rfl rfl rfl rfl fun a w hS ha=>?_);refine wpList_nil (aa (wp_ret (retA (i:=2) (cs:=(wA x8)) rfl T34 rfl hS rfl ha rfl rfl ?_)));have hS:=hS.front 1 rfl;have hS:=hS.drop;have hS:=hS.front 1 rfl;have hS:=hS.drop;have hS:=hS.front 2 rfl;have hS:=hS.drop;have hS:=hS.front 2 rfl;have hS:=hS.front 1 rfl;have hS:=hS.front 2 rfl;rw [takeP_at hi6 hx8];exact⟨_,rfl,⟨_,_,_,_,_,_,rfl,hR14,hRb⟩,hS⟩
theorem c_pshared {w0: World} {H: PHeap} {q p: Nat} {ws bs: List Wd} {L: List Ent} (hI: Inv w0 H L) (hD: HD q p ws bs L) (hlw: ws.length≤100000) (hlb: bs.length≤100000) {k: Int}: Calls prog 74 #[(pB q),(iV k)] w0 (fun e w'=> ∃ L',e=.returned (wv (shareP ws k).1)∧HD q p (shareP ws k).2 bs L'∧Step w0 H L w' H L'):=by
 obtain⟨Aw,cw,Ab,cb,ew,eb,rfl,hRw,hRb⟩:=hD;have hS:=Step.refl hI;have hcw_:=Row.cap hRw;have hcb_:=Row.cap hRb;refine enter [(pB q),(iV k)] func74 rfl ntmps74 rfl fun a ha=>?_;refine wp_seq (ab (lin rfl (aE (cs:= #[(iV 0),(iV 0),(.string (⟨#[]⟩)),(.bool false)]) T34 hS ha rfl rfl fun b1 a w hS ha=>?_)));refine wpList_nil (aa (wp_seq (wp_seq (ab (Lm rfl ha fun a ha=>?_)))));refine lin rfl (aw ha rfl rfl fun a ha=>?_);refine lin rfl (ac (f:=1) (o2:=1) T70 T29 rfl rfl rfl rfl ha rfl rfl fun a ha=>?_);refine lin rfl (af (v:=(.slice Aw ws.length cw)) T29 rfl ha rfl (hS.blkL 1 rfl) rfl rfl fun a ha=>?_);refine lin rfl (aK T29.und ha rfl rfl fun a ha=>?_);refine lin rfl (bq (i:=((ws.length: Nat): Int)) (j:=0) ha rfl rfl rfl fun a ha=>?_);refine wpList_nil (aa (an (t:=11) ha rfl (fun h3 ha=>?_) (fun h3 ha=>?_)))
 ·refine ao ha rfl (wp_seq (ab (lin rfl (aG (vs:= [(0,(iV 2)),(2,(.string (⟨#[97]⟩)))]) (cells:= [(iV 2),(iV 0),(.string (⟨#[97]⟩)),(.bool false)]) T34 PL34 ha (ha.evp rfl) rfl rfl fun a ha=>?_))));refine lin rfl (aj (cs':= #[(iV 2),(iV 0),(.string (⟨#[97]⟩)),(.bool false)]) T34 hS (i:=0) rfl ha rfl rfl rfl rfl rfl rfl fun a w hS ha=>?_);refine wpList_nil (aa (wp_ret (ah (retA (i:=0) (cs:= #[(iV 2),(iV 0),(.string (⟨#[97]⟩)),(.bool false)]) rfl T34 rfl hS rfl ha rfl rfl ?_))));have hS:=hS.drop;obtain rfl: ws= []:=List.eq_nil_of_length_eq_zero (by omega);rw [shareP_nil];exact⟨_,by rfl,⟨_,_,_,_,_,_,rfl,hRw,hRb⟩,hS⟩
 ·refine ai ha rfl (wp_skip (aa (wp_seq (ab (Lm rfl ha fun a ha=>?_)))));refine Lm rfl ha fun a ha=>?_;refine lin rfl (aw ha rfl rfl fun a ha=>?_);refine lin rfl (ac (f:=1) (o2:=1) T70 T29 rfl rfl rfl rfl ha rfl rfl fun a ha=>?_);refine lin rfl (af (v:=(.slice Aw ws.length cw)) T29 rfl ha rfl (hS.blkL 1 rfl) rfl rfl fun a ha=>?_);refine lin rfl (aK T29.und ha rfl rfl fun a ha=>?_);have hk5:=dh (k:=k) (n:=((ws.length: Nat): Int)) hS.inv.nil (by omega);refine lin rfl (Co func11 ha rfl (hk5) ?_);rintro e w ⟨rfl,hc⟩;obtain⟨i4,hi4,hli4⟩:=cE (k:=k) (n:=((ws.length: Nat): Int)) (m:=ws.length) (by omega) (by omega);rw [hi4];refine⟨_,rfl,fun a ha=>?_⟩;have hS:=hS.call hc;refine Ls rfl ha fun a ha=>?_;refine wpList_nil (aa (wp_seq (ab (Lm rfl ha fun a ha=>?_))));refine Lm rfl ha fun a ha=>?_;refine lin rfl (aw ha rfl rfl fun a ha=>?_);refine lin rfl (ac (f:=1) (o2:=1) T70 T29 rfl rfl rfl rfl ha rfl rfl fun a ha=>?_);refine lin rfl (af (v:=(.slice Aw ws.length cw)) T29 rfl ha rfl (hS.blkL 1 rfl) rfl rfl fun a ha=>?_);have hk7:=eF hS.inv.nil (RdG.of_mem Wd.len (by decide) hS.inv (List.mem_of_getElem? (i:=2) rfl) hRw (by omega));refine lin rfl (Co func75 ha rfl (hk7) ?_);rintro e w ⟨A6,c6,en6,rfl,hR6,hc⟩;refine⟨_,rfl,fun a ha=>?_⟩;have hS:=hS.call_own hc;refine lin rfl (aw ha rfl rfl fun a ha=>?_);refine lin rfl (ac (f:=1) (o2:=1) T70 T29 rfl rfl rfl rfl ha rfl rfl fun a ha=>?_);refine lin rfl (aj (cs':=(hA p A6 ws.length c6 Ab bs.length cb)) T29 hS (i:=2) rfl ha rfl rfl rfl rfl rfl rfl fun a w hS ha=>?_);refine wpList_nil (aa (wp_seq (ab (Lm rfl ha fun a ha=>?_))));refine lin rfl (aw ha rfl rfl fun a ha=>?_);refine lin rfl (ac (f:=1) (o2:=1) T70 T29 rfl rfl rfl rfl ha rfl rfl fun a ha=>?_);refine lin rfl (af (v:=(.slice A6 ws.length c6)) T29 rfl ha rfl (hS.blkL 2 rfl) rfl rfl fun a ha=>?_);refine Lm rfl ha fun a ha=>?_;obtain⟨x9,b9,cap9,cur9,hx9,hv9,he9,hc9⟩:=Row.getG Wd.len (by decide) hR6 (j:=i4) (by omega);have hA9:(A6: Option Addr)=some ⟨b9,0,none⟩:=by injection hv9
  refine lin rfl (aD (b:=b9) (o:=0) (j:=i4) T29.und T34 hA9 ha rfl rfl (by omega) (by omega) rfl fun a ha=>?_);refine lin rfl (ac (f:=3) (o2:=(0+i4 * 4+3)) T34 T4 rfl rfl rfl rfl ha rfl rfl fun a ha=>?_);refine lin rfl (o_putF (j:=i4) (d:=3) T4 hS (i:=0) rfl hR6 rfl hA9 (by omega) (by decide) rfl ha rfl rfl rfl rfl fun en10 a w hR10 he10 hS ha=>?_);rw [show (Value.cells _).toList= [.bool false] from rfl,splice_one hx9] at hR10;refine wpList_nil (aa (wp_seq (ab (Lm rfl ha fun a ha=>?_))));refine lin rfl (aw ha rfl rfl fun a ha=>?_);refine lin rfl (ac (f:=1) (o2:=1) T70 T29 rfl rfl rfl rfl ha rfl rfl fun a ha=>?_);refine lin rfl (af (v:=(.slice A6 ws.length c6)) T29 rfl ha rfl (hS.blkL 2 rfl) rfl rfl fun a ha=>?_);refine Lm rfl ha fun a ha=>?_;obtain⟨x11,b11,cap11,cur11,hx11,hv11,he11,hc11⟩:=Row.getG Wd.len (by decide) hR10 (j:=i4) (by omega);have hA11:(A6: Option Addr)=some ⟨b11,0,none⟩:=by injection hv11
  refine lin rfl (aD (b:=b11) (o:=0) (j:=i4) T29.und T34 hA11 ha rfl rfl (by omega) (by omega) rfl fun a ha=>?_);refine lin rfl (al (vs:=(wL x11)) T34 rfl ha rfl (hS.blkL 0 (b:=b11) (o:=.cells cur11 34 (0,0)) (by rw [← he11];rfl)) rfl hc11 rfl fun a ha=>?_);refine lin rfl (aj (cs':=(wA x11)) T34 hS (i:=1) rfl ha rfl rfl rfl rfl rfl rfl fun a w hS ha=>?_);refine wpList_nil (aa (wp_ret (retA (i:=1) (cs:=(wA x11)) rfl T34 rfl hS rfl ha rfl rfl ?_)));have hS:=hS.front 1 rfl;have hS:=hS.drop;have hS:=hS.front 2 rfl;have hS:=hS.drop;have hS:=hS.front 2 rfl;have hS:=hS.front 1 rfl;have hS:=hS.front 2 rfl;have he2_: x11=shW x9:=by
   have h_:=hx11;rw [List.getElem?_set,if_pos rfl,if_pos (by omega)] at h_;exact(Option.some.inj h_).symm
  subst he2_;rw [shareP_at hi4 hx9];exact⟨_,rfl,⟨_,_,_,_,_,_,(by rw [List.length_set];rfl),(by rw [List.length_set];exact hR10),hRb⟩,hS⟩
theorem c_phold {w0: World} {H: PHeap} {q p: Nat} {ws bs: List Wd} {L: List Ent} (hI: Inv w0 H L) (hD: HD q p ws bs L) (hlw: ws.length≤100000) (hlb: bs.length≤100000) {x: Wd} {e0: Int}: Calls prog 72 #[(pB q),(.agg (wA x)),(iV e0)] w0 (fun e w'=> ∃ H' L',e=.returned (.tuple #[])∧HD q p (holdP ws x e0) bs L'∧Step w0 H L w' H' L'):=by
 obtain⟨Aw,cw,Ab,cb,ew,eb,rfl,hRw,hRb⟩:=hD;have hS:=Step.refl hI;have hcw_:=Row.cap hRw;have hcb_:=Row.cap hRb;refine enter [(pB q),(.agg (wA x)),(iV e0)] func72 rfl ntmps72 rfl fun a ha=>?_;refine wp_seq (ab (lin rfl (aU (cs:=(wA x)) hS ha rfl rfl rfl fun b1 a w hS ha=>?_)));refine wpList_nil (aa (wp_seq (ab (Lm rfl ha fun a ha=>?_))));refine lin rfl (bq (i:=e0) (j:=0) ha rfl rfl rfl fun a ha=>?_);refine wpList_nil (aa (an (t:=7) ha rfl (fun h3 ha=>?_) (fun h3 ha=>?_)))
 ·refine ao ha rfl ?_;have hS:=hS.front 2 rfl;have hS_:=hS;refine As.c_draw_head (ini:=(As.il [(7, [ew])])) (sup:=(As.sl [])) (als:= [7]) (s0:=⟨H,fun _=>none⟩) (L:= [(eO b1 34 (wA x)),(eO q 70 (hA p Aw ws.length cw Ab bs.length cb)),eb]) (N:=18) (E:= [(0,(pB q)),(4,(pB b1))]) 8 [FcV (pB q),FcV (pB q),FcV (pB q),FcV (.pointer (some ⟨q,1,none⟩)),FcV (.slice Aw ws.length cw),FcV (.agg (wA x)),fun q_ v=>(fun H v=> ∃ b,v=.slice (some ⟨b,0,none⟩) 1 1∧H b=some (.cells (wA x) 34 (0,0))) q_.H v,fun s v=> ∃(A: Option Addr) (c: Nat) (en: Ent),s.ax 7=some [en]∧v=.slice A ((ws++([x]: List Wd)).length) c∧Row (.slice A ((ws++([x]: List Wd)).length) c) en 34 4 ((ws++([x]: List Wd)).length) (gfl Wd.cells (ws++([x]: List Wd)))] mixed rfl rfl rfl (As.M1 (As.M1 (As.M1 (As.M1 (As.M1 (As.M1 (As.Monos.cons (fun _ _ v hl hq_=>(fun _ _ _ hl ⟨b,h,hb⟩=>⟨b,h,hl _ _ hb⟩: ∀(H H': PHeap) (v: Value),Le H H'→(fun H v=> ∃ b,v=.slice (some ⟨b,0,none⟩) 1 1∧H b=some (.cells (wA x) 34 (0,0))) H v→(fun H v=> ∃ b,v=.slice (some ⟨b,0,none⟩) 1 1∧H b=some (.cells (wA x) 34 (0,0))) H' v) _ _ _ hl.le hq_) (As.Monos.cons (fun _ _ _ hl ⟨A,c,en,h,e⟩=>⟨A,c,en,hl.get h,e⟩) (As.Monos.nil))))))))) (fun _=>rfl) hS (ha.pk rfl) (As.QuietsI.c4 ?_ ?_ ?_ ?_ (As.QuietsI.c4 ?_ ?_ ?_ ?_ (As.QuietsI.nil))) (fun f_ a w s_ hls hS ha hdr_=>?_)
  ·refine As.Qx rfl fun a w H_ ax_ hle hax_ hS ha hd hls=>?_;have hSf:=hS;exact ak ha rfl rfl fun a ha=>As.ql ha hSf
  ·refine As.Qx rfl fun a w H_ ax_ hle hax_ hS ha hd hls=>?_;have hSf:=hS;exact ak ha rfl rfl fun a ha=>As.ql ha hSf
  ·refine As.Qx1 1 rfl fun a w H_ ax_ hle hax_ hS ha hd hls=>?_;have hSf:=hS;exact aw ha rfl rfl fun a ha=>As.ql ha hSf
  ·refine As.Qx1 2 rfl fun a w H_ ax_ hle hax_ hS ha hd hls=>?_;have hSf:=hS;exact ac (f:=1) (o2:=1) T70 T29 rfl rfl rfl rfl ha rfl rfl fun a ha=>As.ql ha hSf
  ·refine As.Qx1 3 rfl fun a w H_ ax_ hle hax_ hS ha hd hls=>?_;have hSf:=hS;have hS:=Step.dropN _ _ hS;exact af (v:=(.slice Aw ws.length cw)) T29 rfl ha rfl (hS.blkL 1 rfl) rfl rfl fun a ha=>As.ql ha hSf
  ·refine As.Qx rfl fun a w H_ ax_ hle hax_ hS ha hd hls=>?_;have hSf:=hS;have hS:=Step.dropN _ _ hS;exact al (vs:=(wL x)) T34 rfl ha rfl (hS.blkL 0 rfl) rfl (ag rfl) rfl fun a ha=>As.ql ha hSf
  ·refine As.Qx1 5 rfl fun a w H_ ax_ hle hax_ hS ha hd hls=>?_;have hSf:=hS;have hSr:=Step.dropN _ _ hS;refine id (aY (vs:= [(0,(.agg (wA x)))]) (cells:=(wL x)) T29.und T34 hS ha (ha.evp rfl) rfl rfl rfl rfl fun b4 a w hS ha=>?_);obtain⟨H4,hS,hle4,hb4⟩:=hS.give;exact As.qdone (s:=⟨H_,ax_⟩) hle4 ha hS ⟨_,rfl,hb4⟩
  ·refine As.Qx1 4 rfl fun a w H_ ax_ hle hax_ hS ha hd hls=>?_;obtain⟨_,ha,b4,rfl,hb4⟩:=hd.g ha 6 rfl;have hS: Step w0 H [(eO q 70 #[.pointer (some ⟨p,0,none⟩),.slice Aw ws.length cw,.slice Ab bs.length cb,.bool true]),ew,eb] w H_ (ew::(As.aents (As.il [(7, [ew])]) (As.sl []) [] ax_++As.aents (As.il [(7, [ew])]) (As.sl []) [] ax_++ [(eO b1 34 (wA x)),(eO q 70 (hA p Aw ws.length cw Ab bs.length cb)),eb])):=As.opn (s:=⟨H_,ax_⟩) [] [7] [] [ew] rfl (As.con0s hax_ rfl) hS;obtain⟨brd6,offrd6,erd6,csrd6,fzrd6,h1rd6,h2rd6⟩:=(RowG.of_lit Wd.len ([x]: List Wd) hb4 (by simp) rfl).2.2;refine id (aJ (news:=(gfl Wd.cells ([x]: List Wd))) (xs:=(gfl Wd.cells ws)) T29.und T34 rfl rfl hS hRw ha rfl rfl (au Wd.len _) (fun hn=>⟨brd6,offrd6,erd6,csrd6,fzrd6,(h1rd6 (fun h_=>hn (by rw [h_];rfl))).1,hS.blkH (h1rd6 (fun h_=>hn (by rw [h_];rfl))).2,fun j u hj=>a6 Wd.len (by decide) h2rd6 hj⟩) (aQ Wd.one' _) (by omega) rfl rfl fun v5 en5 a w hR5 hS ha=>?_);rw [← aF] at hR5;obtain⟨A5,c5,rfl⟩:=hR5.slice;have hn_:(ws.length+1)=(ws++([x]: List Wd)).length:=by have h_:=hR5.1;rw [au Wd.len] at h_;omega
   rw [show Value.slice A5 (ws.length+1) c5=Value.slice A5 (ws++([x]: List Wd)).length c5 from by rw [hn_]] at ha;rw [hn_] at hR5;exact As.qown (i:=7) (dst:=some 15) (s:=⟨H_,ax_⟩) (E:= [en5]) [] [7] [] rfl rfl hax_ (Le.refl _) ha.dfr (As.has_at ha) hS As.con1 ⟨_,_,_,rfl,rfl,hR5⟩
  obtain⟨H7,ax_⟩:=s_;have hle7: Le H H7:=hls.le;dsimp only at hdr_ hS;obtain⟨_,ha,rfl⟩:=As.Dd ha hdr_ 0 rfl;obtain⟨_,ha,A5,c5,en5,hx_5,rfl,hR5⟩:=As.Dd ha hdr_ 7 rfl;have hx_5: ax_ 7=some [en5]:=hx_5;have hS: Step w0 H [(eO q 70 #[.pointer (some ⟨p,0,none⟩),.slice Aw ws.length cw,.slice Ab bs.length cb,.bool true]),ew,eb] w H7 [en5,(eO b1 34 (wA x)),(eO q 70 (hA p Aw ws.length cw Ab bs.length cb)),eb]:=by
   have h_:=hS;unfold As.aents at h_;simp only [List.flatMap_cons,List.flatMap_nil,As.conE,show (As.sl []) 7=none from rfl,hx_5,Option.isSome_some,Option.getD_some,cond_true,cond_false,List.cons_append,List.nil_append,List.append_nil] at h_;exact h_
  refine any1 (i:=8) (by kernel_rfl) rfl rfl (aw ha rfl rfl fun a ha=>?_);refine any1 (i:=9) (by kernel_rfl) rfl rfl (ac (f:=1) (o2:=1) T70 T29 rfl rfl rfl rfl ha rfl rfl fun a ha=>?_);refine any1 (i:=10) (by kernel_rfl) rfl rfl (aj (cs':=(hA p A5 ((ws++([x]: List Wd)).length) c5 Ab bs.length cb)) T29 hS (i:=2) rfl ha rfl rfl rfl rfl rfl rfl fun a w hS ha=>?_);refine any0 (by kernel_rfl) ?_;refine ret0 rfl ha ?_;have hS:=hS.front 1 rfl;have hS:=hS.drop;have hS:=hS.front 2 rfl;have hS:=hS.front 1 rfl;have hS:=hS.front 2 rfl;rw [show holdP ws x e0=ws++ [x] from if_pos h3];exact⟨_,_,rfl,⟨_,_,_,_,_,_,by first | rfl | simp,hR5,hRb⟩,hS⟩
 ·refine ai ha rfl (wp_skip (ret0 rfl ha ?_));have hS:=hS.drop;rw [holdP_no _ _ h3];exact⟨_,_,rfl,⟨_,_,_,_,_,_,rfl,hRw,hRb⟩,hS⟩
end Go.Vk.Try
namespace Go.Vk.Try
open Go.RowKit
theorem c_Parts {w0: World} {H: PHeap} {L: List Ent} {p: Nat} {h: HS} (hI: Inv w0 H L) (hK: HK p h L) (hO: h.Ok) {x: Wd}: Calls prog 77 #[(pB p),(.agg (wA x))] w0 (fun e w'=> ∃ H' L' A c en,e=.returned (.tuple #[.string (partsS h.S x).1,.slice A (partsS h.S x).2.1.length c,.int .i64 (partsS h.S x).2.2])∧Row (.slice A (partsS h.S x).2.1.length c) en 34 4 (partsS h.S x).2.1.length (gfl Wd.cells (partsS h.S x).2.1)∧HK p h L'∧Step w0 H L w' H' (en::L')):=by
 obtain⟨bs,hbs,hP⟩:=hK;have hS:=Step.refl hI;have hl:=HK.len hO hbs;have hu:=hO.u;have hu: -100000000000≤h.u∧h.u≤100000000000:=by omega
 refine enter [(pB p),(.agg (wA x))] func77 rfl ntmps77 rfl fun a ha=>?_;refine wp_seq (ab (lin rfl (aU (cs:=(wA x)) hS ha rfl rfl rfl fun b1 a w hS ha=>?_)));refine Ls rfl ha fun a ha=>?_;refine Ls rfl ha fun a ha=>?_;refine Ls rfl ha fun a ha=>?_;refine wpList_nil (aa (wp_seq (wp_seq (ab (Lm rfl ha fun a ha=>?_)))));refine lin rfl (aW T24.und T88 ha rfl rfl rfl fun a ha=>?_);refine wpList_nil (aa (ai ha rfl (wp_skip (aa (wp_seq (wp_seq (ab (Lm rfl ha fun a ha=>?_))))))));refine lin rfl (al (vs:=(wL x)) T34 rfl ha rfl (hS.blkL 0 rfl) rfl (ag rfl) rfl fun a ha=>?_);have hk3:=eX (x:=x) (hS.tail [(eO b1 34 (wA x))]) hP;refine lin rfl (Co func46 ha rfl (hk3) ?_);rintro e w ⟨rfl,hc⟩;obtain⟨x4,hx4⟩: ∃ o_,atB bs x=o_:=⟨_,rfl⟩;rw [hx4];refine⟨_,rfl,fun a ha=>?_⟩;have hS:=hS.frameR [(eO b1 34 (wA x))] hc;refine wpList_nil (aa (wp_block (wp_seq (ab ?_))))
 rcases x4 with _ |⟨q5,⟨to5,hk5⟩ |⟨nm5,ws5⟩ |⟨ws5⟩⟩
 ·refine lin rfl (br T103 ha rfl rfl fun a ha=>?_);refine lin rfl (ad (v:=(.bool false)) ha rfl rfl rfl fun a ha=>?_);refine lin rfl (ad (v:=(.pointer none)) ha rfl rfl rfl fun a ha=>?_);refine wpList_nil (aa (ai ha rfl (wp_seq (ab (lin rfl (br T107 ha rfl rfl fun a ha=>?_))))));refine lin rfl (ad (v:=(.bool false)) ha rfl rfl rfl fun a ha=>?_);refine lin rfl (ad (v:=(.pointer none)) ha rfl rfl rfl fun a ha=>?_);refine wpList_nil (aa (ai ha rfl (wp_skip (ap (aa (wp_seq (ab (Ls rfl ha fun a ha=>?_))))))));refine Ls rfl ha fun a ha=>?_;refine Ls rfl ha fun a ha=>?_;refine wpList_nil (aa (wp_ret (ret3 rfl ha rfl rfl rfl ?_)));have ha_: atS h.S x=none:=by rw [← hbs];exact aI hx4
  have hS:=hS.drop;have hq_: partsS h.S x=(⟨#[]⟩, [],211):=by
   unfold partsS;rw [ha_]
  rw [hq_];exact⟨_,_,none,0,noEnt,rfl,Row.nil _ _,⟨bs,hbs,hP⟩,hS.cons_none rfl⟩
 ·have hx5:=(az hx4).2.2.2.1;refine lin rfl (aP T103 ha rfl rfl rfl fun a ha=>?_);refine lin rfl (ad (v:=(.bool false)) ha rfl rfl rfl fun a ha=>?_);refine lin rfl (ad (v:=(.pointer none)) ha rfl rfl rfl fun a ha=>?_);refine wpList_nil (aa (ai ha rfl (wp_seq (ab (lin rfl (aP T107 ha rfl rfl rfl fun a ha=>?_))))));refine lin rfl (ad (v:=(.bool false)) ha rfl rfl rfl fun a ha=>?_);refine lin rfl (ad (v:=(.pointer none)) ha rfl rfl rfl fun a ha=>?_);refine wpList_nil (aa (ai ha rfl (wp_skip (ap (aa (wp_seq (ab (Ls rfl ha fun a ha=>?_))))))));refine Ls rfl ha fun a ha=>?_;refine Ls rfl ha fun a ha=>?_;refine wpList_nil (aa (wp_ret (ret3 rfl ha rfl rfl rfl ?_)));have ha_: atS h.S x=some (PB.var to5 hk5):=by rw [← hbs];exact aI hx4
  have hS:=hS.drop;have hq_: partsS h.S x=(⟨#[]⟩, [],211):=by
   unfold partsS;rw [ha_]
  rw [hq_];exact⟨_,_,none,0,noEnt,rfl,Row.nil _ _,⟨bs,hbs,hP⟩,hS.cons_none rfl⟩
 ·have hx5:=(az hx4).2.2.2.1;refine lin rfl (bj T103.und ha rfl rfl fun a ha=>?_);refine lin rfl (ad (v:=(.bool true)) ha rfl rfl rfl fun a ha=>?_);refine lin rfl (ad (v:=(pB q5)) ha rfl rfl rfl fun a ha=>?_);refine wpList_nil (aa (ao ha rfl (wp_seq (ab (Ls rfl ha fun a ha=>?_)))));refine wpList_nil (aa (wp_seq ?_));obtain⟨Abm6,cbm6,Atm6,ctm6,ebm6,etm6,fsm6,hEm6,hLbm6,hLtm6,hRbm6,hRtm6,hNm6,hFm6⟩:=(hP).open_;have hS:=Step.castR [(eO b1 34 (wA x))] hEm6 hS;obtain⟨t5,ht5,hB5⟩:=hFm6.get hx5;obtain⟨A5,c5,hq5,hRa5,hn3_5⟩:=hB5;have hm15:=bg ht5;have hm25:=bi ht5;have hm35:=bp ht5;rw [hq5] at hm15;have hok5:=hFm6.ok _ _ hx5;have hkl1_5: ws5.length≤64:=hok5;have hS_:=hS;refine As.c_draw_head (ini:=(As.il [])) (sup:=(As.sl [])) (als:= [8]) (s0:=⟨H,fun _=>none⟩) (L:=((eO b1 34 (wA x))::(eO p 88 #[(.slice Abm6 bs.length cbm6),(.slice Atm6 bs.length ctm6),(iV h.u)])::ebm6::etm6::(fl3 fsm6))) (N:=34) (E:= [(7,(pB q5))]) 9 [FcV (pB q5),FcV (pB q5),FcV (pB q5),FcV (.string nm5),FcV (pB q5),FcV (pB q5),FcV (.pointer (some ⟨q5,1,none⟩)),FcV (.slice A5 ws5.length c5),fun s v=> ∃(A: Option Addr) (c: Nat) (en: Ent),s.ax 8=some [en]∧v=.slice A ws5.length c∧Row (.slice A ws5.length c) en 34 4 ws5.length (gfl Wd.cells ws5)] mixed rfl rfl rfl (As.M1 (As.M1 (As.M1 (As.M1 (As.M1 (As.M1 (As.M1 (As.M1 (As.Monos.cons (fun _ _ _ hl ⟨A,c,en,h,e⟩=>⟨A,c,en,hl.get h,e⟩) (As.Monos.nil)))))))))) (fun _=>rfl) hS (ha.pk rfl) (As.QuietsI.c4 ?_ ?_ ?_ ?_ (As.QuietsI.c4 ?_ ?_ ?_ ?_ (As.QuietsI.cons ?_ (As.QuietsI.nil)))) (fun f_ a w s_ hls hS ha hdr_=>?_)
  ·refine As.Qx rfl fun a w H_ ax_ hle hax_ hS ha hd hls=>?_;have hSf:=hS;exact ak ha rfl rfl fun a ha=>As.ql ha hSf
  ·refine As.Qx1 0 rfl fun a w H_ ax_ hle hax_ hS ha hd hls=>?_;have hSf:=hS;exact aw ha rfl rfl fun a ha=>As.ql ha hSf
  ·refine As.Qx1 1 rfl fun a w H_ ax_ hle hax_ hS ha hd hls=>?_;have hSf:=hS;exact ac (f:=0) (o2:=0) T106 T9 rfl rfl rfl rfl ha rfl rfl fun a ha=>As.ql ha hSf
  ·refine As.Qx1 2 rfl fun a w H_ ax_ hle hax_ hS ha hd hls=>?_;have hSf:=hS;have hS:=Step.dropN _ _ hS;exact af (v:=(.string nm5)) T9 rfl ha rfl (hS.at_mem [(eO b1 34 (wA x)),(eO p 88 #[(.slice Abm6 bs.length cbm6),(.slice Atm6 bs.length ctm6),(iV h.u)]),ebm6,etm6] hm15) rfl rfl fun a ha=>As.ql ha hSf
  ·refine As.Qx rfl fun a w H_ ax_ hle hax_ hS ha hd hls=>?_;have hSf:=hS;exact ak ha rfl rfl fun a ha=>As.ql ha hSf
  ·refine As.Qx1 4 rfl fun a w H_ ax_ hle hax_ hS ha hd hls=>?_;have hSf:=hS;exact aw ha rfl rfl fun a ha=>As.ql ha hSf
  ·refine As.Qx1 5 rfl fun a w H_ ax_ hle hax_ hS ha hd hls=>?_;have hSf:=hS;exact ac (f:=1) (o2:=1) T106 T29 rfl rfl rfl rfl ha rfl rfl fun a ha=>As.ql ha hSf
  ·refine As.Qx1 6 rfl fun a w H_ ax_ hle hax_ hS ha hd hls=>?_;have hSf:=hS;have hS:=Step.dropN _ _ hS;exact af (v:=(.slice A5 ws5.length c5)) T29 rfl ha rfl (hS.at_mem [(eO b1 34 (wA x)),(eO p 88 #[(.slice Abm6 bs.length cbm6),(.slice Atm6 bs.length ctm6),(iV h.u)]),ebm6,etm6] hm15) rfl rfl fun a ha=>As.ql ha hSf
  ·refine As.Qx1 7 rfl fun a w H_ ax_ hle hax_ hS ha hd hls=>?_;have hS: Step w0 H L w H_ ((As.aents (As.il []) (As.sl []) [] ax_++As.aents (As.il []) (As.sl []) [] ax_++((eO b1 34 (wA x))::(eO p 88 #[(.slice Abm6 bs.length cbm6),(.slice Atm6 bs.length ctm6),(iV h.u)])::ebm6::etm6::(fl3 fsm6)))):=As.opn (s:=⟨H_,ax_⟩) [] [8] [] [] rfl (As.con0 hax_ rfl) hS;have hk8:=bF hS.inv.nil (RdG.of_mem Wd.len (by decide) hS.inv (bE [(eO b1 34 (wA x)),(eO p 88 #[(.slice Abm6 bs.length cbm6),(.slice Atm6 bs.length ctm6),(iV h.u)]),ebm6,etm6] hm25) hRa5 (by omega));refine id (Co func48 ha rfl (hk8) ?_);rintro e w ⟨A7,c7,en7,rfl,hR7,hc⟩;refine⟨_,rfl,fun a ha=>?_⟩;have hS:=hS.call_own hc;exact As.qown (i:=8) (dst:=some 25) (s:=⟨H_,ax_⟩) (E:= [en7]) [] [8] [] rfl rfl hax_ (Le.refl _) ha.dfr (As.has_at ha) hS As.con1 ⟨_,_,_,rfl,rfl,hR7⟩
  obtain⟨H10,ax_⟩:=s_;have hle10: Le H H10:=hls.le;dsimp only at hdr_ hS;obtain⟨_,ha,rfl⟩:=As.Dd ha hdr_ 3 rfl;obtain⟨_,ha,A7,c7,en7,hx_7,rfl,hR7⟩:=As.Dd ha hdr_ 8 rfl;have hx_7: ax_ 8=some [en7]:=hx_7;have hS: Step w0 H L w H10 (en7::(eO b1 34 (wA x))::(eO p 88 #[(.slice Abm6 bs.length cbm6),(.slice Atm6 bs.length ctm6),(iV h.u)])::ebm6::etm6::(fl3 fsm6)):=by
   have h_:=hS;unfold As.aents at h_;simp only [List.flatMap_cons,List.flatMap_nil,As.conE,show (As.sl []) 8=none from rfl,hx_7,Option.isSome_some,Option.getD_some,cond_true,cond_false,List.cons_append,List.nil_append,List.append_nil] at h_;exact h_
  refine any1 (i:=9) (by kernel_rfl) rfl rfl (aH ha rfl rfl fun a ha=>?_);refine any1 (i:=10) (by kernel_rfl) rfl rfl (aH ha rfl rfl fun a ha=>?_);refine any1 (i:=11) (by kernel_rfl) rfl rfl (aH ha rfl rfl fun a ha=>?_);refine any0 (by kernel_rfl) ?_;refine aa (wp_ret (ay (ah (ret3 rfl ha rfl rfl rfl ?_))));have ha_: atS h.S x=some (PB.fn nm5 ws5):=by rw [← hbs];exact aI hx4
  have hP11: HP p bs h.tk h.u ((eO p 88 #[(.slice Abm6 bs.length cbm6),(.slice Atm6 bs.length ctm6),(iV h.u)])::ebm6::etm6::(fl3 fsm6)):=HP.mk' (by first | exact hLbm6 | exact List.length_set.trans hLbm6 |(simp only [List.length_set];done) |(simp only [List.length_set];exact hLbm6)) (by first | exact hLtm6 | exact List.length_set.trans hLtm6 |(simp only [List.length_set];done) |(simp only [List.length_set];exact hLtm6)) hRbm6 hRtm6 hNm6 hFm6;have hS:=hS.front 1 rfl;have hS:=hS.drop;have hq_: partsS h.S x=(nm5,ws5,0):=by
   unfold partsS;rw [ha_]
  rw [hq_];exact⟨_,_,_,_,_,rfl,hR7,⟨bs,hbs,hP11⟩,hS⟩
 ·have hx5:=(az hx4).2.2.2.1;refine lin rfl (aP T103 ha rfl rfl rfl fun a ha=>?_);refine lin rfl (ad (v:=(.bool false)) ha rfl rfl rfl fun a ha=>?_);refine lin rfl (ad (v:=(.pointer none)) ha rfl rfl rfl fun a ha=>?_);refine wpList_nil (aa (ai ha rfl (wp_seq (ab (lin rfl (bj T107.und ha rfl rfl fun a ha=>?_))))));refine lin rfl (ad (v:=(.bool true)) ha rfl rfl rfl fun a ha=>?_);refine lin rfl (ad (v:=(pB q5)) ha rfl rfl rfl fun a ha=>?_);refine wpList_nil (aa (ao ha rfl (wp_seq (ab (Ls rfl ha fun a ha=>?_)))));refine wpList_nil (aa (wp_seq ?_));obtain⟨Abm12,cbm12,Atm12,ctm12,ebm12,etm12,fsm12,hEm12,hLbm12,hLtm12,hRbm12,hRtm12,hNm12,hFm12⟩:=(hP).open_;have hS:=Step.castR [(eO b1 34 (wA x))] hEm12 hS;obtain⟨t5,ht5,hB5⟩:=hFm12.get hx5;obtain⟨A5,c5,hq5,hRa5,hn3_5⟩:=hB5;have hm15:=bg ht5;have hm25:=bi ht5;have hm35:=bp ht5;rw [hq5] at hm15;have hok5:=hFm12.ok _ _ hx5;have hkl1_5: ws5.length≤64:=hok5;refine ab (Lm rfl ha fun a ha=>?_);refine lin rfl (aw ha rfl rfl fun a ha=>?_);refine lin rfl (ac (f:=0) (o2:=0) T109 T29 rfl rfl rfl rfl ha rfl rfl fun a ha=>?_);refine lin rfl (af (v:=(.slice A5 ws5.length c5)) T29 rfl ha rfl (hS.at_mem [(eO b1 34 (wA x)),(eO p 88 #[(.slice Abm12 bs.length cbm12),(.slice Atm12 bs.length ctm12),(iV h.u)]),ebm12,etm12] hm15) rfl rfl fun a ha=>?_);have hk14:=bF hS.inv.nil (RdG.of_mem Wd.len (by decide) hS.inv (bE [(eO b1 34 (wA x)),(eO p 88 #[(.slice Abm12 bs.length cbm12),(.slice Atm12 bs.length ctm12),(iV h.u)]),ebm12,etm12] hm25) hRa5 (by omega));refine lin rfl (Co func48 ha rfl (hk14) ?_);rintro e w ⟨A13,c13,en13,rfl,hR13,hc⟩;refine⟨_,rfl,fun a ha=>?_⟩;have hS:=hS.call_own hc;refine Ls rfl ha fun a ha=>?_;refine Ls rfl ha fun a ha=>?_;refine Ls rfl ha fun a ha=>?_;refine wpList_nil (aa (wp_ret (ay (ah (ret3 rfl ha rfl rfl rfl ?_)))));have ha_: atS h.S x=some (PB.vec ws5):=by rw [← hbs];exact aI hx4
  have hP16: HP p bs h.tk h.u ((eO p 88 #[(.slice Abm12 bs.length cbm12),(.slice Atm12 bs.length ctm12),(iV h.u)])::ebm12::etm12::(fl3 fsm12)):=HP.mk' (by first | exact hLbm12 | exact List.length_set.trans hLbm12 |(simp only [List.length_set];done) |(simp only [List.length_set];exact hLbm12)) (by first | exact hLtm12 | exact List.length_set.trans hLtm12 |(simp only [List.length_set];done) |(simp only [List.length_set];exact hLtm12)) hRbm12 hRtm12 hNm12 hFm12;have hS:=hS.front 1 rfl;have hS:=hS.drop;have hq_: partsS h.S x=(⟨#[]⟩,ws5,0):=by
   unfold partsS;rw [ha_]
  rw [hq_];exact⟨_,_,_,_,_,rfl,hR13,⟨bs,hbs,hP16⟩,hS⟩
theorem c_Reuse {w0: World} {H: PHeap} {L: List Ent} {p: Nat} {h: HS} (hI: Inv w0 H L) (hK: HK p h L) (hO: h.Ok) {x: Wd} {s: ByteArray} {A: Option Addr} {c: Nat} {xs: List Wd} (hr: RdG 4 Wd.cells w0 L A c xs): Calls prog 78 #[(pB p),(.agg (wA x)),(.string s),(.slice A xs.length c)] w0 (fun e w'=> ∃ L',e=.returned (.tuple #[wv (h.reuse x s xs).2.1,.int .i64 (h.reuse x s xs).2.2])∧HK p (h.reuse x s xs).1 L'∧Step w0 H L w' H L'):=by
 obtain⟨bs,hbs,hP⟩:=hK;have hS:=Step.refl hI;have hl:=HK.len hO hbs;have hu:=hO.u;have hu: -100000000000≤h.u∧h.u≤100000000000:=by omega
 refine enter [(pB p),(.agg (wA x)),(.string s),(.slice A xs.length c)] func78 rfl ntmps78 rfl fun a ha=>?_;refine wp_seq (ab (lin rfl (aU (cs:=(wA x)) hS ha rfl rfl rfl fun b1 a w hS ha=>?_)));refine lin rfl (aE (cs:= #[(iV 0),(iV 0),(.string (⟨#[]⟩)),(.bool false)]) T34 hS ha rfl rfl fun b3 a w hS ha=>?_);refine Ls rfl ha fun a ha=>?_;refine wpList_nil (aa (wp_seq (wp_seq (ab (Lm rfl ha fun a ha=>?_)))));refine lin rfl (aW T24.und T88 ha rfl rfl rfl fun a ha=>?_);refine wpList_nil (aa (ai ha rfl (wp_skip (aa (wp_seq (ab (Lm rfl ha fun a ha=>?_)))))));refine lin rfl (al (vs:=(wL x)) T34 rfl ha rfl (hS.blkL 1 rfl) rfl (ag rfl) rfl fun a ha=>?_);have hk5:=eX (x:=x) (hS.tail [(eO b3 34 #[(iV 0),(iV 0),(.string (⟨#[]⟩)),(.bool false)]),(eO b1 34 (wA x))]) hP;refine lin rfl (Co func46 ha rfl (hk5) ?_);rintro e w ⟨rfl,hc⟩;obtain⟨x6,hx6⟩: ∃ o_,atB bs x=o_:=⟨_,rfl⟩;rw [hx6];refine⟨_,rfl,fun a ha=>?_⟩;have hS:=hS.frameR [(eO b3 34 #[(iV 0),(iV 0),(.string (⟨#[]⟩)),(.bool false)]),(eO b1 34 (wA x))] hc
 rcases x6 with _ |⟨q7,⟨to7,hk7⟩ |⟨nm7,ws7⟩ |⟨ws7⟩⟩
 ·refine lin rfl (br T103 ha rfl rfl fun a ha=>?_);refine Lm rfl ha fun a ha=>?_;refine lin rfl (ad (v:=(.pointer none)) ha rfl rfl rfl fun a ha=>?_);refine lin rfl (ad (v:=(.bool false)) ha rfl rfl rfl fun a ha=>?_);refine Ls rfl ha fun a ha=>?_;refine Ls rfl ha fun a ha=>?_;refine wpList_nil (aa (wp_seq (wp_block (wp_seq (ab (Lm rfl ha fun a ha=>?_))))));refine lin rfl (aT ha rfl rfl fun a ha=>?_);refine Ls rfl ha fun a ha=>?_;refine wpList_nil (aa (ao ha rfl (wp_seq (ab (lin rfl (aG (vs:= []) (cells:= [(iV 0),(iV 0),(.string (⟨#[]⟩)),(.bool false)]) T34 PL34 ha (ha.evp rfl) rfl rfl fun a ha=>?_))))));refine lin rfl (aj (cs':= #[(iV 0),(iV 0),(.string (⟨#[]⟩)),(.bool false)]) T34 hS (i:=0) rfl ha rfl rfl rfl rfl rfl rfl fun a w hS ha=>?_);refine Ls rfl ha fun a ha=>?_;refine wpList_nil (aa (wp_ret (ay (ah (retA1 (i:=0) (cs:= #[(iV 0),(iV 0),(.string (⟨#[]⟩)),(.bool false)]) rfl T34 rfl hS rfl ha rfl rfl rfl ?_)))));have ha_: atS h.S x=none:=by rw [← hbs];exact aI hx6
  have hS:=hS.drop;have hS:=hS.drop;have hq_: h.reuse x s xs=(h,(Wd.zero,211)):=by
   unfold HS.reuse;rw [ha_]
  rw [hq_];exact⟨_,rfl,⟨bs,hbs,hP⟩,hS.plain⟩
 ·have hx7:=(az hx6).2.2.2.1;refine lin rfl (aP T103 ha rfl rfl rfl fun a ha=>?_);refine Lm rfl ha fun a ha=>?_;refine lin rfl (ad (v:=(.pointer none)) ha rfl rfl rfl fun a ha=>?_);refine lin rfl (ad (v:=(.bool false)) ha rfl rfl rfl fun a ha=>?_);refine Ls rfl ha fun a ha=>?_;refine Ls rfl ha fun a ha=>?_;refine wpList_nil (aa (wp_seq (wp_block (wp_seq (ab (Lm rfl ha fun a ha=>?_))))));refine lin rfl (aT ha rfl rfl fun a ha=>?_);refine Ls rfl ha fun a ha=>?_;refine wpList_nil (aa (ao ha rfl (wp_seq (ab (lin rfl (aG (vs:= []) (cells:= [(iV 0),(iV 0),(.string (⟨#[]⟩)),(.bool false)]) T34 PL34 ha (ha.evp rfl) rfl rfl fun a ha=>?_))))));refine lin rfl (aj (cs':= #[(iV 0),(iV 0),(.string (⟨#[]⟩)),(.bool false)]) T34 hS (i:=0) rfl ha rfl rfl rfl rfl rfl rfl fun a w hS ha=>?_);refine Ls rfl ha fun a ha=>?_;refine wpList_nil (aa (wp_ret (ay (ah (retA1 (i:=0) (cs:= #[(iV 0),(iV 0),(.string (⟨#[]⟩)),(.bool false)]) rfl T34 rfl hS rfl ha rfl rfl rfl ?_)))));have ha_: atS h.S x=some (PB.var to7 hk7):=by rw [← hbs];exact aI hx6
  have hS:=hS.drop;have hS:=hS.drop;have hq_: h.reuse x s xs=(h,(Wd.zero,211)):=by
   unfold HS.reuse;rw [ha_]
  rw [hq_];exact⟨_,rfl,⟨bs,hbs,hP⟩,hS.plain⟩
 ·have hx7:=(az hx6).2.2.2.1;refine lin rfl (bj T103.und ha rfl rfl fun a ha=>?_);refine Lm rfl ha fun a ha=>?_;refine lin rfl (ad (v:=(pB q7)) ha rfl rfl rfl fun a ha=>?_);refine lin rfl (ad (v:=(.bool true)) ha rfl rfl rfl fun a ha=>?_);refine Ls rfl ha fun a ha=>?_;refine Ls rfl ha fun a ha=>?_;refine wpList_nil (aa (wp_seq (wp_block (wp_seq (ab (Lm rfl ha fun a ha=>?_))))));refine lin rfl (aT ha rfl rfl fun a ha=>?_);refine Ls rfl ha fun a ha=>?_;refine wpList_nil (aa (ai ha rfl (wp_seq (ab (lin rfl (ac (f:=3) (o2:=3) T34 T4 rfl rfl rfl rfl ha rfl rfl fun a ha=>?_))))));refine lin rfl (af (v:=(.bool x.one)) T4 rfl ha rfl (hS.blkL 1 rfl) rfl rfl fun a ha=>?_);refine lin rfl (aT ha rfl rfl fun a ha=>?_);refine Ls rfl ha fun a ha=>?_;refine wpList_nil (aa (ar (t:=26) ha rfl (fun h8 ha=>?_) (fun h8 ha=>?_)))
  ·refine ao ha rfl (wp_seq (ab (lin rfl (aG (vs:= []) (cells:= [(iV 0),(iV 0),(.string (⟨#[]⟩)),(.bool false)]) T34 PL34 ha (ha.evp rfl) rfl rfl fun a ha=>?_))));refine lin rfl (aj (cs':= #[(iV 0),(iV 0),(.string (⟨#[]⟩)),(.bool false)]) T34 hS (i:=0) rfl ha rfl rfl rfl rfl rfl rfl fun a w hS ha=>?_);refine Ls rfl ha fun a ha=>?_;refine wpList_nil (aa (wp_ret (ay (ah (retA1 (i:=0) (cs:= #[(iV 0),(iV 0),(.string (⟨#[]⟩)),(.bool false)]) rfl T34 rfl hS rfl ha rfl rfl rfl ?_)))));have ha_: atS h.S x=some (PB.fn nm7 ws7):=by rw [← hbs];exact aI hx6
   have p0_:=h8;simp only [Bool.not_eq_true',Bool.not_eq_false'] at p0_;have hS:=hS.drop;have hS:=hS.drop;have hq_: h.reuse x s xs=(h,(Wd.zero,212)):=by
    unfold HS.reuse;rw [ha_];dsimp only;rw [if_pos p0_]
   rw [hq_];exact⟨_,rfl,⟨bs,hbs,hP⟩,hS.plain⟩
  ·refine ai ha rfl (wp_seq (ab (Lm rfl ha fun a ha=>?_)));refine lin rfl (Cs func50 ha rfl (e7 (s:=s) hS.inv.nil) hS fun a w ha hS=>?_);refine lin rfl (aT ha rfl rfl fun a ha=>?_);refine Ls rfl ha fun a ha=>?_;refine wpList_nil (aa (ar (t:=31) ha rfl (fun h9 ha=>?_) (fun h9 ha=>?_)))
   ·refine ao ha rfl (wp_seq (ab (lin rfl (aG (vs:= []) (cells:= [(iV 0),(iV 0),(.string (⟨#[]⟩)),(.bool false)]) T34 PL34 ha (ha.evp rfl) rfl rfl fun a ha=>?_))));refine lin rfl (aj (cs':= #[(iV 0),(iV 0),(.string (⟨#[]⟩)),(.bool false)]) T34 hS (i:=0) rfl ha rfl rfl rfl rfl rfl rfl fun a w hS ha=>?_);refine Ls rfl ha fun a ha=>?_;refine wpList_nil (aa (wp_ret (ay (ah (retA1 (i:=0) (cs:= #[(iV 0),(iV 0),(.string (⟨#[]⟩)),(.bool false)]) rfl T34 rfl hS rfl ha rfl rfl rfl ?_)))));have ha_: atS h.S x=some (PB.fn nm7 ws7):=by rw [← hbs];exact aI hx6
    have p0_:=h8;simp only [Bool.not_eq_true',Bool.not_eq_false'] at p0_;have p1_:=h9;simp only [Bool.not_eq_true',Bool.not_eq_false'] at p1_;have hS:=hS.drop;have hS:=hS.drop;have hq_: h.reuse x s xs=(h,(Wd.zero,1)):=by
     unfold HS.reuse;rw [ha_];dsimp only;rw [if_neg (by rw [p0_];simp)];rw [if_pos p1_]
    rw [hq_];exact⟨_,rfl,⟨bs,hbs,hP⟩,hS.plain⟩
   ·refine ai ha rfl (wp_seq (ab (Lm rfl ha fun a ha=>?_)));refine Lm rfl ha fun a ha=>?_;have hk10:=fe (hS.tail [(eO b3 34 #[(iV 0),(iV 0),(.string (⟨#[]⟩)),(.bool false)]),(eO b1 34 (wA x))]) hP (hr.at_ (H':=H) hS (bz [(eO b3 34 #[(iV 0),(iV 0),(.string (⟨#[]⟩)),(.bool false)]),(eO b1 34 (wA x))]));refine lin rfl (Co func51 ha rfl (hk10) ?_);rintro e w ⟨rfl,hc⟩;refine⟨_,rfl,fun a ha=>?_⟩;have hS:=hS.frameR [(eO b3 34 #[(iV 0),(iV 0),(.string (⟨#[]⟩)),(.bool false)]),(eO b1 34 (wA x))] hc;refine lin rfl (aT ha rfl rfl fun a ha=>?_);refine Ls rfl ha fun a ha=>?_;refine wpList_nil (aa (ar (t:=36) ha rfl (fun h11 ha=>?_) (fun h11 ha=>?_)))
    ·refine ao ha rfl (wp_seq (ab (lin rfl (aG (vs:= []) (cells:= [(iV 0),(iV 0),(.string (⟨#[]⟩)),(.bool false)]) T34 PL34 ha (ha.evp rfl) rfl rfl fun a ha=>?_))));refine lin rfl (aj (cs':= #[(iV 0),(iV 0),(.string (⟨#[]⟩)),(.bool false)]) T34 hS (i:=0) rfl ha rfl rfl rfl rfl rfl rfl fun a w hS ha=>?_);refine Ls rfl ha fun a ha=>?_;refine wpList_nil (aa (wp_ret (ay (ah (retA1 (i:=0) (cs:= #[(iV 0),(iV 0),(.string (⟨#[]⟩)),(.bool false)]) rfl T34 rfl hS rfl ha rfl rfl rfl ?_)))));have ha_: atS h.S x=some (PB.fn nm7 ws7):=by rw [← hbs];exact aI hx6
     have p0_:=h8;simp only [Bool.not_eq_true',Bool.not_eq_false'] at p0_;have p1_:=h9;simp only [Bool.not_eq_true',Bool.not_eq_false'] at p1_;have p2_:=h11;simp only [Bool.not_eq_true',Bool.not_eq_false'] at p2_;rw [hbs] at p2_;have hS:=hS.drop;have hS:=hS.drop;have hq_: h.reuse x s xs=(h,(Wd.zero,211)):=by
      unfold HS.reuse;rw [ha_];dsimp only;rw [if_neg (by rw [p0_];simp)];rw [if_neg (by rw [p1_];simp)];rw [if_pos p2_]
     rw [hq_];exact⟨_,rfl,⟨bs,hbs,hP⟩,hS.plain⟩
    ·refine ai ha rfl (wp_seq (ab (Lm rfl ha fun a ha=>?_)));refine lin rfl (aK T29.und ha rfl rfl fun a ha=>?_);refine Lm rfl ha fun a ha=>?_;refine lin rfl (aw ha rfl rfl fun a ha=>?_);obtain⟨Abm12,cbm12,Atm12,ctm12,ebm12,etm12,fsm12,hEm12,hLbm12,hLtm12,hRbm12,hRtm12,hNm12,hFm12⟩:=(hP).open_;have hS:=Step.castR [(eO b3 34 #[(iV 0),(iV 0),(.string (⟨#[]⟩)),(.bool false)]),(eO b1 34 (wA x))] hEm12 hS;obtain⟨t7,ht7,hB7⟩:=hFm12.get hx7;obtain⟨A7,c7,hq7,hRa7,hn3_7⟩:=hB7;have hm17:=bg ht7;have hm27:=bi ht7;have hm37:=bp ht7;rw [hq7] at hm17;have hok7:=hFm12.ok _ _ hx7;have hkl1_7: ws7.length≤64:=hok7;refine lin rfl (ac (f:=1) (o2:=1) T106 T29 rfl rfl rfl rfl ha rfl rfl fun a ha=>?_);refine lin rfl (af (v:=(.slice A7 ws7.length c7)) T29 rfl ha rfl (hS.at_mem [(eO b3 34 #[(iV 0),(iV 0),(.string (⟨#[]⟩)),(.bool false)]),(eO b1 34 (wA x)),(eO p 88 #[(.slice Abm12 bs.length cbm12),(.slice Atm12 bs.length ctm12),(iV h.u)]),ebm12,etm12] hm17) rfl rfl fun a ha=>?_);refine lin rfl (aK T29.und ha rfl rfl fun a ha=>?_);refine lin rfl (bG (i:=((xs.length: Nat): Int)) (j:=((ws7.length: Nat): Int)) ha rfl rfl rfl fun a ha=>?_);refine Ls rfl ha fun a ha=>?_;refine wpList_nil (aa (aR (t:=42) ha rfl (fun h13 ha=>?_) (fun h13 ha=>?_)))
     ·refine ao ha rfl (wp_seq (ab (lin rfl (aG (vs:= []) (cells:= [(iV 0),(iV 0),(.string (⟨#[]⟩)),(.bool false)]) T34 PL34 ha (ha.evp rfl) rfl rfl fun a ha=>?_))));refine lin rfl (aj (cs':= #[(iV 0),(iV 0),(.string (⟨#[]⟩)),(.bool false)]) T34 hS (i:=0) rfl ha rfl rfl rfl rfl rfl rfl fun a w hS ha=>?_);refine Ls rfl ha fun a ha=>?_;refine wpList_nil (aa (wp_ret (ay (ah (retA1 (i:=0) (cs:= #[(iV 0),(iV 0),(.string (⟨#[]⟩)),(.bool false)]) rfl T34 rfl hS rfl ha rfl rfl rfl ?_)))));have ha_: atS h.S x=some (PB.fn nm7 ws7):=by rw [← hbs];exact aI hx6
      have p0_:=h8;simp only [Bool.not_eq_true',Bool.not_eq_false'] at p0_;have p1_:=h9;simp only [Bool.not_eq_true',Bool.not_eq_false'] at p1_;have p2_:=h11;simp only [Bool.not_eq_true',Bool.not_eq_false'] at p2_;rw [hbs] at p2_;have hP14: HP p bs h.tk h.u ((eO p 88 #[(.slice Abm12 bs.length cbm12),(.slice Atm12 bs.length ctm12),(iV h.u)])::ebm12::etm12::(fl3 fsm12)):=HP.mk' (by first | exact hLbm12 | exact List.length_set.trans hLbm12 |(simp only [List.length_set];done) |(simp only [List.length_set];exact hLbm12)) (by first | exact hLtm12 | exact List.length_set.trans hLtm12 |(simp only [List.length_set];done) |(simp only [List.length_set];exact hLtm12)) hRbm12 hRtm12 hNm12 hFm12;have hS:=hS.drop;have hS:=hS.drop;have hq_: h.reuse x s xs=(h,(Wd.zero,1)):=by
       unfold HS.reuse;rw [ha_];dsimp only;rw [if_neg (by rw [p0_];simp)];rw [if_neg (by rw [p1_];simp)];rw [if_neg (by rw [p2_];simp)];rw [if_pos (by omega)]
      rw [hq_];exact⟨_,rfl,⟨bs,hbs,hP14⟩,hS.plain⟩
     ·refine ai ha rfl (wp_skip (ap (aa (wp_seq ?_))));have hlx_: xs.length=ws7.length:=by omega
      refine ab (Lm rfl ha fun a ha=>?_);refine Lm rfl ha fun a ha=>?_;refine Lm rfl ha fun a ha=>?_;refine Lm rfl ha fun a ha=>?_;have hk16:=bF hS.inv.nil (hr.at_ (H':=H) hS (fun _ h_=>absurd h_ bN));refine lin rfl (Co func48 ha rfl (hk16) ?_);rintro e w ⟨A15,c15,en15,rfl,hR15,hc⟩;refine⟨_,rfl,fun a ha=>?_⟩;have hS:=hS.call_own hc;have hS:=Step.ex3 (Es:= [en15,(eO b3 34 #[(iV 0),(iV 0),(.string (⟨#[]⟩)),(.bool false)]),(eO b1 34 (wA x)),(eO p 88 #[(.slice Abm12 bs.length cbm12),(.slice Atm12 bs.length ctm12),(iV h.u)]),ebm12,etm12]) hS ht7;rw [hq7] at hS;refine lin rfl (aw ha rfl rfl fun a ha=>?_);refine lin rfl (ac (f:=0) (o2:=0) T106 T9 rfl rfl rfl rfl ha rfl rfl fun a ha=>?_);refine lin rfl (aj (cs':= #[(.string s),(.slice A7 ws7.length c7)]) T9 hS (i:=6) rfl ha rfl rfl rfl rfl rfl rfl fun a w hS ha=>?_);refine lin rfl (aw ha rfl rfl fun a ha=>?_);refine lin rfl (ac (f:=1) (o2:=1) T106 T29 rfl rfl rfl rfl ha rfl rfl fun a ha=>?_);refine lin rfl (aj (cs':= #[(.string s),(.slice A15 xs.length c15)]) T29 hS (i:=6) rfl ha rfl rfl rfl rfl rfl rfl fun a w hS ha=>?_);refine wpList_nil (aa (wp_seq (ab (lin rfl (al (vs:=(wL x)) T34 rfl ha rfl (hS.blkL 2 rfl) rfl (ag rfl) rfl fun a ha=>?_)))));refine lin rfl (aj (cs':=(wA x)) T34 hS (i:=1) rfl ha rfl rfl rfl rfl rfl rfl fun a w hS ha=>?_);refine Ls rfl ha fun a ha=>?_;refine wpList_nil (aa (wp_ret (retA1 (i:=1) (cs:=(wA x)) rfl T34 rfl hS rfl ha rfl rfl rfl ?_)));have ha_: atS h.S x=some (PB.fn nm7 ws7):=by rw [← hbs];exact aI hx6
      have p0_:=h8;simp only [Bool.not_eq_true',Bool.not_eq_false'] at p0_;have p1_:=h9;simp only [Bool.not_eq_true',Bool.not_eq_false'] at p1_;have p2_:=h11;simp only [Bool.not_eq_true',Bool.not_eq_false'] at p2_;rw [hbs] at p2_;have hS:=hS.front 8 rfl;have hS:=hS.front 1 rfl;have hS:=hS.front 7 rfl;have hS:=hS.front 7 rfl;have hS:=hS.front 7 rfl;have hS:=hS.front 7 rfl;have hS:=hS.front 8 rfl;have hS:=hS.front 8 rfl;have hS:=hS.front 8 rfl;have hS:=Step.hd3 (Es:= [(eO b3 34 (wA x)),(eO b1 34 (wA x)),t7.2.1,(eO p 88 #[(.slice Abm12 bs.length cbm12),(.slice Atm12 bs.length ctm12),(iV h.u)]),ebm12,etm12]) (t':=((eO q7 106 #[(.string s),(.slice A15 xs.length c15)]),en15,t7.2.2)) ht7 hS;have hFm12:=hFm12.set (j:=x.n.toNat) (o:=some (q7,(PB.fn s xs))) (t:=((eO q7 106 #[(.string s),(.slice A15 xs.length c15)]),en15,t7.2.2)) ⟨_,_,rfl,hR15,hn3_7⟩ (fun b_ e_=>by obtain rfl:=Option.some.inj e_;exact(show xs.length≤64 by have h_:=hok7;omega));have hRbm12: Row (.slice Abm12 bs.length cbm12) ebm12 90 1 bs.length (gfl bkc (bs.set x.n.toNat (some (q7,(PB.fn s xs))))):=by rw [bI (o:=some (q7,(PB.fn s xs))) hx7 rfl];exact hRbm12
      have hS:=hS.drop;have hS:=hS.drop;have hS:=hS.drop;have hfin_:=hS.plain;have hkk_: HK p (h.setB x.n.toNat (PB.fn s xs)) ((eO p 88 #[(.slice Abm12 bs.length cbm12),(.slice Atm12 bs.length ctm12),(iV h.u)])::ebm12::etm12::(fl3 (fsm12.set x.n.toNat ((eO q7 106 #[(.string s),(.slice A15 xs.length c15)]),en15,t7.2.2)))):=HK.setB (q:=q7) hbs (HP.mk' (by first | exact hLbm12 | exact List.length_set.trans hLbm12 |(simp only [List.length_set];done) |(simp only [List.length_set];exact hLbm12)) (by first | exact hLtm12 | exact List.length_set.trans hLtm12 |(simp only [List.length_set];done) |(simp only [List.length_set];exact hLtm12)) hRbm12 hRtm12 hNm12 hFm12);have hq_: h.reuse x s xs=(h.setB x.n.toNat (PB.fn s xs),(x,0)):=by
       unfold HS.reuse;rw [ha_];dsimp only;rw [if_neg (by rw [p0_];simp)];rw [if_neg (by rw [p1_];simp)];rw [if_neg (by rw [p2_];simp)];rw [if_neg (by omega)]
      rw [hq_];exact⟨_,rfl,hkk_,hfin_⟩
 ·have hx7:=(az hx6).2.2.2.1;refine lin rfl (aP T103 ha rfl rfl rfl fun a ha=>?_);refine Lm rfl ha fun a ha=>?_;refine lin rfl (ad (v:=(.pointer none)) ha rfl rfl rfl fun a ha=>?_);refine lin rfl (ad (v:=(.bool false)) ha rfl rfl rfl fun a ha=>?_);refine Ls rfl ha fun a ha=>?_;refine Ls rfl ha fun a ha=>?_;refine wpList_nil (aa (wp_seq (wp_block (wp_seq (ab (Lm rfl ha fun a ha=>?_))))));refine lin rfl (aT ha rfl rfl fun a ha=>?_);refine Ls rfl ha fun a ha=>?_;refine wpList_nil (aa (ao ha rfl (wp_seq (ab (lin rfl (aG (vs:= []) (cells:= [(iV 0),(iV 0),(.string (⟨#[]⟩)),(.bool false)]) T34 PL34 ha (ha.evp rfl) rfl rfl fun a ha=>?_))))));refine lin rfl (aj (cs':= #[(iV 0),(iV 0),(.string (⟨#[]⟩)),(.bool false)]) T34 hS (i:=0) rfl ha rfl rfl rfl rfl rfl rfl fun a w hS ha=>?_);refine Ls rfl ha fun a ha=>?_;refine wpList_nil (aa (wp_ret (ay (ah (retA1 (i:=0) (cs:= #[(iV 0),(iV 0),(.string (⟨#[]⟩)),(.bool false)]) rfl T34 rfl hS rfl ha rfl rfl rfl ?_)))));have ha_: atS h.S x=some (PB.vec ws7):=by rw [← hbs];exact aI hx6
  have hS:=hS.drop;have hS:=hS.drop;have hq_: h.reuse x s xs=(h,(Wd.zero,211)):=by
   unfold HS.reuse;rw [ha_]
  rw [hq_];exact⟨_,rfl,⟨bs,hbs,hP⟩,hS.plain⟩
end Go.Vk.Try
namespace Go.Vk
def takeK: List Wd→List Int→List Wd × List Wd
 | ws, []=>([],ws)
 | ws,k::ks=>((takeP ws k).1::(takeK (takeP ws k).2 ks).1,(takeK (takeP ws k).2 ks).2)
theorem dD: ∀(ks: List Int) (ws: List Wd) (k: Int),takeK ws (ks++ [k])=((takeK ws ks).1++ [(takeP (takeK ws ks).2 k).1],(takeP (takeK ws ks).2 k).2)
 | [],ws,k=>rfl
 | q::ks,ws,k=>by
  rw [List.cons_append,takeK,takeK,dD ks];rfl
theorem dk: ∀(ks: List Int) (ws: List Wd),(takeK ws ks).1.length=ks.length∧(takeK ws ks).2.length≤ws.length
 | [],ws=>⟨rfl,Nat.le_refl _⟩
 | k::ks,ws=>by
  have h1:=dk ks (takeP ws k).2;have h2:=bw ws k;rw [takeK];exact⟨by rw [List.length_cons,List.length_cons,h1.1],by dsimp only;omega⟩
def occV (n: Int) (t: Tm): Bool:=(nds t).any fun x=>decide (x.kind=1)&&decide (x.n=n)
def insP (S: PS) (v y: Wd): Bool:=if ¬(readS S y).2=0∨¬(readS S v).2=0∨¬(readS S v).1.kind=1 then true else occV (readS S v).1.n (readS S y).1
structure StV where
 kd: Int
 a: Int
 b: Int
 c: Int
def StV.cells (x: StV): List Value:= [.int .i64 x.kd,.int .i64 x.a,.int .i64 x.b,.int .i64 x.c]
theorem StV.len (x: StV): x.cells.length=4:=rfl
abbrev Sta:=HS × List Wd × List Wd
def gS: ByteArray:=⟨#[103]⟩
def fS: ByteArray:=⟨#[102]⟩
inductive SR (x: StV): Sta→Sta→Prop
 | var {h: HS} {ws bs: List Wd} (e: h.var.2.2=0): SR x (h,ws,bs) (h.var.1,ws++ [h.var.2.1],bs++ [shW h.var.2.1])
 | var0 {h: HS} {ws bs: List Wd} (e: ¬ h.var.2.2=0): SR x (h,ws,bs) (h.var.1,ws,bs)
 | fn {h: HS} {ws bs ws1 ws2: List Wd} {y z: Wd} (e1: takeP ws x.a=(y,ws1)) (e2: shareP ws1 x.b=(z,ws2)): SR x (h,ws,bs) ((h.fun_ fS [y,z]).1,holdP ws2 (h.fun_ fS [y,z]).2.1 (h.fun_ fS [y,z]).2.2,bs)
 | vec {h: HS} {ws bs ws1 ws2 ws3: List Wd} {y z u: Wd} (e1: takeP ws x.a=(y,ws1)) (e2: takeP ws1 x.b=(z,ws2)) (e3: takeP ws2 x.c=(u,ws3)): SR x (h,ws,bs) ((h.vec [y,z,u]).1,holdP ws3 (h.vec [y,z,u]).2.1 (h.vec [y,z,u]).2.2,bs)
 | same {h: HS} {ws bs: List Wd}: SR x (h,ws,bs) (h,ws,bs)
 | ins {h: HS} {ws bs ws1: List Wd} {y v: Wd} {i: Nat} (e1: takeP ws x.b=(y,ws1)) (hv: bs[i]? =some v): SR x (h,ws,bs) (h,ws1++ [y],bs.eraseIdx i++ [v])
 | bnd {h: HS} {ws bs ws1: List Wd} {y v: Wd} {i: Nat} (hk: ixZ x.kd 9=3) (e1: takeP ws x.b=(y,ws1)) (hv: bs[i]? =some v) (hi: insP h.S v y=false): SR x (h,ws,bs) ((h.bind v y).1,ws1,bs.eraseIdx i)
 | free {h: HS} {ws bs ws1: List Wd} {w: Wd} (k: Int) (e1: takeP ws k=(w,ws1)) (e:(h.free w).2.2=0): SR x (h,ws,bs) ((h.free w).1,ws1++(h.free w).2.1,bs)
 | back {h: HS} {ws bs ws1: List Wd} {w: Wd} (k: Int) (e1: takeP ws k=(w,ws1)): SR x (h,ws,bs) (h,ws1++ [w],bs)
 | reuse {h: HS} {ws bs ws1 l: List Wd} {w: Wd} (ks: List Int) (hk: ixZ x.kd 9=5) (k: Int) (e1: takeP ws k=(w,ws1)) (ht: w.tag=5) (ho: w.one=true) (hp:(partsS h.S w).2.2=0) (hl:(partsS h.S w).2.1=l) (hn: ks.length=l.length): SR x (h,ws,bs) ((h.reuse w gS (takeK ws1 ks).1).1,holdP (takeK ws1 ks).2 (h.reuse w gS (takeK ws1 ks).1).2.1 (h.reuse w gS (takeK ws1 ks).1).2.2++l,bs)
 | back2 {h: HS} {ws bs ws1 ws2: List Wd} {w y: Wd} (e1: takeP ws x.a=(w,ws1)) (e2: takeP ws1 x.b=(y,ws2)): SR x (h,ws,bs) (h,ws2++ [w,y],bs)
 | updi {h: HS} {ws bs ws1 ws2 l: List Wd} {w y: Wd} {i: Int} (hk: ixZ x.kd 9=6) (e1: takeP ws x.a=(w,ws1)) (e2: takeP ws1 x.b=(y,ws2)) (ht: w.tag=6) (hp:(partsS h.S w).2.2=0) (hl:(partsS h.S w).2.1=l) (hi: 0≤i∧i < l.length) (e:(h.update w i y).2.2.2.2=0) (h1:(h.update w i y).2.2.2.1=true): SR x (h,ws,bs) ((h.update w i y).1,ws2++ [(h.update w i y).2.1,(h.update w i y).2.2.1],bs)
 | updc {h: HS} {ws bs ws1 ws2 l: List Wd} {w y: Wd} {i: Int} (e1: takeP ws x.a=(w,ws1)) (e2: takeP ws1 x.b=(y,ws2)) (ht: w.tag=6) (hp:(partsS h.S w).2.2=0) (hl:(partsS h.S w).2.1=l) (hi: 0≤i∧i < l.length) (e:(h.update w i y).2.2.2.2=0) (h1:(h.update w i y).2.2.2.1=false): SR x (h,ws,bs) ((h.update w i y).1,ws2++ [(h.update w i y).2.1,(h.update w i y).2.2.1]++ [w],bs)
 | shr {h: HS} {ws bs: List Wd}: SR x (h,ws,bs) (h,(shareP ws x.a).2,bs)
theorem DI.takeK {h: HS} {bs: List Wd}: ∀(ks: List Int) {ws pool: List Wd},DI h (ws++pool) bs→DI h ((Go.Vk.takeK ws ks).1++((Go.Vk.takeK ws ks).2++pool)) bs
 | [],ws,pool,hd=>hd
 | k::ks,ws,pool,hd=>by
  have h1:=hd.take k;have h2: DI h ((takeP ws k).2++((takeP ws k).1::pool)) bs:=h1.perm List.perm_middle.symm;have h3:=DI.takeK ks h2;rw [Go.Vk.takeK];refine h3.perm ?_;rw [List.cons_append,← List.append_assoc,← List.append_assoc];exact List.perm_middle
theorem parts_fn {S: PS} {w: Wd} (ht: w.tag=5) (hp:(partsS S w).2.2=0): ∃ s,atS S w=some (.fn s (partsS S w).2.1):=by
 unfold partsS at hp ⊢
 cases ha: atS S w with
 | none=>rw [ha] at hp;cases hp
 | some b =>
  have h5:=(az ha).2.2.2.2
  cases b with
  | var to hk=>rw [ha] at hp;cases hp
  | fn s l=>exact ⟨s,rfl⟩
  | vec l=>simp [PB.tag] at h5;omega
theorem parts_vec {S: PS} {w: Wd} (ht: w.tag=6) (hp:(partsS S w).2.2=0): atS S w=some (.vec (partsS S w).2.1):=by
 unfold partsS at hp ⊢
 cases ha: atS S w with
 | none=>rw [ha] at hp;cases hp
 | some b =>
  have h5:=(az ha).2.2.2.2
  cases b with
  | var to hk=>rw [ha] at hp;cases hp
  | fn s l=>simp [PB.tag] at h5;omega
  | vec l=>rfl
theorem read_unb {S: PS} {v: Wd} (h: Unb S v) (hw: wordS S v=true):(readS S v).1=.mk 1 v.n ⟨#[]⟩ []:=by
 have hf:=unb_follow h;unfold readS;rw [if_neg (by rw [hw];simp),show (600: Nat)=599+1 from rfl,bO (by rw [hf]) (by omega) (by rw [hf];show ¬ v.tag=1;rw [h.1];omega) (by rw [hf];show ¬ v.tag=2;rw [h.1];omega) (by rw [hf];show ¬ v.tag=3;rw [h.1];omega),hf];dsimp only;rw [h.2.2]
theorem eL {h: HS} {ws bs: List Wd} {v: Wd} {i: Nat} (hd: DI h ws bs) (hv: bs[i]? =some v): DI h ws (v::bs.eraseIdx i):=by
 obtain⟨hl,hx⟩:=List.getElem?_eq_some_iff.1 hv;refine hd.permB ?_;have:=(bB hl).symm
 rwa [hx] at this
end Go.Vk
