/- Part 4 of the proof of heapTrue_holds. Conditions: none. -/
import Derived.Test.YthblpljakpecdaaC3
set_option linter.unusedVariables false
set_option linter.unusedSimpArgs false
set_option linter.unusedSectionVars false
set_option maxRecDepth 100000
open Go.Proofs.Try
namespace Go.Vk
theorem SR.di {x: StV} {h h': HS} {ws ws' bs bs': List Wd} (hs: SR x (h,ws,bs) (h',ws',bs')) (hd: DI h ws bs): DI h' ws' bs':=by
 have nil_: ∀ {ws: List Wd},DI h ws bs→DI h (ws++ []) bs:=fun hd=>by rw [List.append_nil];exact hd
 have tk: ∀ {ws ws1 pool: List Wd} {k: Int} {y: Wd},DI h (ws++pool) bs→takeP ws k=(y,ws1)→DI h (y::(ws1++pool)) bs:=fun {ws ws1 pool k y} hd e=>by
  have:=hd.take k
  rwa [e] at this
 cases hs with
 | var e=>exact hd.var.1 e
 | var0 e=>rw [hd.var.2 e];exact hd
 | fn e1 e2 =>
  rename_i ws1 ws2 y z
  have h1:=tk (nil_ hd) e1;have h2: DI h (ws1++ [y]) bs:=(h1.perm (by rw [List.append_nil];exact List.perm_append_comm (l₁:= [y]) (l₂:=ws1)));have h3:=h2.shareW x.b;rw [e2] at h3;refine DI.hfun (args:= [y,z]) (h3.perm ?_) (by kernel_rfl) (by simp) (by simp);refine(List.Perm.cons _ (List.perm_append_comm (l₁:=ws2) (l₂:= [y]))).trans ?_;exact List.Perm.swap _ _ _
 | vec e1 e2 e3 =>
  rename_i ws1 ws2 ws3 y z u
  have h1:=tk (nil_ hd) e1;have h2: DI h (ws1++ [y]) bs:=(h1.perm (by rw [List.append_nil];exact List.perm_append_comm (l₁:= [y]) (l₂:=ws1)));have h3:=tk h2 e2;have h4: DI h (ws2++ [z,y]) bs:=h3.perm (by
   refine(List.perm_append_comm (l₁:= [z]) (l₂:=ws2++ [y])).trans ?_;rw [List.append_assoc];exact List.Perm.append_left _ (List.Perm.swap _ _ _))
  have h5:=tk h4 e3;refine DI.hvec (args:= [y,z,u]) (h5.perm ?_) (by simp);refine(List.Perm.cons _ (List.perm_append_comm (l₁:=ws3) (l₂:= [z,y]))).trans ?_
  show (u::z::y::ws3).Perm (y::z::u::ws3)
  exact((List.Perm.cons _ (List.Perm.swap _ _ _)).trans (List.Perm.swap _ _ _)).trans (List.Perm.cons _ (List.Perm.swap _ _ _))
 | same=>exact hd
 | ins e1 hv =>
  have h1:=tk (nil_ hd) e1;rw [List.append_nil] at h1;exact(eL h1.snoc hv).permB (List.perm_append_comm (l₁:= [_]))
 | bnd hk e1 hv hi =>
  rename_i y v i
  have h1:=tk (nil_ hd) e1;rw [List.append_nil] at h1;have h2:=eL h1 hv;unfold insP at hi
  split at hi
  ·cases hi
  ·rename_i hno
   have hr:(readS h.S y).2=0:=Classical.byContradiction fun e=>hno (.inl e);have hu:=h2.bv v List.mem_cons_self;have hrv:=read_unb hu (cy hu.2.2);obtain⟨g,hb,_,hd'⟩:=h2.bind (T:=(readS h.S y).1) (Prod.ext rfl hr) (fun hk hn=>by
    rw [hrv] at hi;unfold occV at hi;rw [List.any_eq_false] at hi;refine hi (readS h.S y).1 (by cases (readS h.S y).1;rw [nds];exact List.mem_cons_self) ?_;rw [Bool.and_eq_true,decide_eq_true_eq,decide_eq_true_eq];exact⟨hk,hn⟩)
   rw [hb];exact hd'
 | free k e1 e =>
  rename_i ws1 w
  have h1:=tk (nil_ hd) e1;rw [List.append_nil] at h1;have:=h1.free (l:=(h.free w).2.1) (h':=(h.free w).1) (by rw [← e]);exact this.perm List.perm_append_comm
 | back k e1 =>
  have h1:=tk (nil_ hd) e1;rw [List.append_nil] at h1;exact h1.snoc
 | reuse ks hk k e1 ht ho hp hl hn =>
  rename_i ws1 l w
  have h1:=tk (nil_ hd) e1;rw [List.append_nil] at h1;have h2: DI h (ws1++ [w]) bs:=h1.snoc;have h3:=h2.takeK ks;obtain⟨s0,ha⟩:=parts_fn ht hp;rw [hl] at ha;have h4: DI h (w::((takeK ws1 ks).1++(takeK ws1 ks).2)) bs:=h3.perm (by
   rw [← List.append_assoc];exact List.perm_append_comm)
  obtain⟨g,hb,hd'⟩:=h4.reuse (s:=gS) ha ho (by kernel_rfl) (by rw [(dk ks ws1).1,hn]);rw [hb,dM];exact hd'
 | back2 e1 e2 =>
  rename_i ws1 ws2 w y
  have h1:=tk (nil_ hd) e1;have h2: DI h (ws1++ [w]) bs:=(h1.perm (by rw [List.append_nil];exact List.perm_append_comm (l₁:= [w]) (l₂:=ws1)));have h3:=tk h2 e2;refine h3.perm ?_;refine(List.perm_append_comm (l₁:= [y]) (l₂:=ws2++ [w])).trans ?_;rw [List.append_assoc];exact List.Perm.refl _
 | updi hk e1 e2 ht hp hl hi e h1' =>
  rename_i ws1 ws2 l w y i
  have h1:=tk (nil_ hd) e1;have h2: DI h (ws1++ [w]) bs:=(h1.perm (by rw [List.append_nil];exact List.perm_append_comm (l₁:= [w]) (l₂:=ws1)));have h3: DI h (w::y::ws2) bs:=(tk h2 e2).perm ((List.Perm.cons _ (List.perm_append_comm (l₁:=ws2) (l₂:= [w]))).trans (List.Perm.swap _ _ _));have ha:=parts_vec ht hp;rw [hl] at ha
  cases ho: w.one with
  | true =>
   obtain⟨g,hb,_,hd'⟩:=h3.update1 ha ho hi;rw [hb];exact hd'
  | false =>
   have:=((h3.update2 ha ho hi).1 e).1;rw [this] at h1';cases h1'
 | updc e1 e2 ht hp hl hi e h1' =>
  rename_i ws1 ws2 l w y i
  have h1:=tk (nil_ hd) e1;have h2: DI h (ws1++ [w]) bs:=(h1.perm (by rw [List.append_nil];exact List.perm_append_comm (l₁:= [w]) (l₂:=ws1)));have h3: DI h (w::y::ws2) bs:=(tk h2 e2).perm ((List.Perm.cons _ (List.perm_append_comm (l₁:=ws2) (l₂:= [w]))).trans (List.Perm.swap _ _ _));have ha:=parts_vec ht hp;rw [hl] at ha
  cases ho: w.one with
  | true =>
   obtain⟨g,hb,_,_⟩:=h3.update1 ha ho hi;rw [hb] at h1';cases h1'
  | false=>exact ((h3.update2 ha ho hi).1 e).2
 | shr =>
  have h1:=(nil_ hd).shareW x.a;rw [List.append_nil] at h1;exact h1.tail
theorem DI.tk {h: HS} {ws ws1 bs: List Wd} {k: Int} {y: Wd} (hd: DI h ws bs) (e: takeP ws k=(y,ws1)): DI h (y::ws1) bs:=by
 have h1: DI h (ws++ []) bs:=by rw [List.append_nil];exact hd
 have:=h1.take k
 rwa [e,List.append_nil] at this
theorem ins_no {S: PS} {v y: Wd} (hi: insP S v y=false):(readS S y).2=0∧occV (readS S v).1.n (readS S y).1=false:=by
 unfold insP at hi
 split at hi
 ·cases hi
 ·rename_i hno
  exact⟨Classical.byContradiction fun e=>hno (.inl e),hi⟩
theorem DI.bind_ok {h: HS} {ws ws1 bs: List Wd} {k: Int} {y v: Wd} {i: Nat} (hd: DI h ws bs) (e: takeP ws k=(y,ws1)) (hv: bs[i]? =some v) (hi: insP h.S v y=false):(h.bind v y).2=([],0):=by
 have h2:=eL (hd.tk e) hv;obtain⟨hr,ho⟩:=ins_no hi;have hu:=h2.bv v List.mem_cons_self;have hrv:=read_unb hu (cy hu.2.2);obtain⟨g,hb,_,_⟩:=h2.bind (T:=(readS h.S y).1) (Prod.ext rfl hr) (fun hk hn=>by
  rw [hrv] at ho;unfold occV at ho;rw [List.any_eq_false] at ho;refine ho (readS h.S y).1 (by cases (readS h.S y).1;rw [nds];exact List.mem_cons_self) ?_;rw [Bool.and_eq_true,decide_eq_true_eq,decide_eq_true_eq];exact⟨hk,hn⟩)
 rw [hb]
theorem DI.reuse_ok {h: HS} {ws ws1 bs l: List Wd} {k: Int} {w: Wd} {ks: List Int} (hd: DI h ws bs) (e: takeP ws k=(w,ws1)) (ht: w.tag=5) (ho: w.one=true) (hp:(partsS h.S w).2.2=0) (hl:(partsS h.S w).2.1=l) (hn: ks.length=l.length):(h.reuse w gS (Go.Vk.takeK ws1 ks).1).2=(w,0):=by
 have h2: DI h (ws1++ [w]) bs:=(hd.tk e).snoc;have h3:=h2.takeK ks;obtain⟨s0,ha⟩:=parts_fn ht hp;rw [hl] at ha;have h4: DI h (w::((Go.Vk.takeK ws1 ks).1++(Go.Vk.takeK ws1 ks).2)) bs:=h3.perm (by
  rw [← List.append_assoc];exact List.perm_append_comm)
 obtain⟨g,hb,_⟩:=h4.reuse (s:=gS) ha ho (by kernel_rfl) (by rw [(dk ks ws1).1,hn]);rw [hb]
theorem update_no {h: HS} {w y: Wd} {i: Int} (hf: ¬(h.update w i y).2.2.2.2=0):(h.update w i y).1=h:=by
 unfold HS.update at hf ⊢
 split
 ·rename_i l hb
  rw [hb] at hf;dsimp only at hf ⊢
  split
  ·rfl
  ·rename_i h1
   rw [if_neg h1] at hf
   split
   ·rfl
   ·rename_i h2
    rw [if_neg h2] at hf
    split
    ·rename_i h3
     rw [if_pos h3] at hf;exact absurd rfl hf
    ·rename_i h3
     rw [if_neg h3] at hf
     split
     ·rfl
     ·rename_i h4
      rw [if_neg h4] at hf;exact absurd rfl hf
 ·rfl
theorem free_len {h: HS} (hO: h.Ok) (w: Wd):(h.free w).2.1.length≤64:=by
 unfold HS.free
 cases hb: atS h.S w with
 | none=>exact Nat.zero_le _
 | some b =>
  have hw:=((hO.blk _ _ (az hb).2.2.2.1).1).words;dsimp only
  split
  ·exact Nat.zero_le _
  ·split
   ·exact Nat.zero_le _
   ·exact hw
theorem parts_len {h: HS} (hO: h.Ok) (w: Wd):(partsS h.S w).2.1.length≤64:=by
 unfold partsS
 split
 ·rename_i s l hb
  exact((hO.blk _ _ (az hb).2.2.2.1).1).words
 ·rename_i l hb
  exact((hO.blk _ _ (az hb).2.2.2.1).1).words
 ·exact Nat.zero_le _
end Go.Vk
namespace Go.Vk.Try
open Go.RowKit
theorem ndsL_any (p: Tm→Bool): ∀ ts: List Tm,(ndsL ts).any p=ts.any fun t=>(nds t).any p
 | []=>by rw [ndsL];rfl
 | t::ts=>by rw [ndsL,List.any_append,List.any_cons,ndsL_any p ts]
theorem fr (n: Int) (t: Tm): occV n t=((decide (t.kind=1)&&decide (t.n=n))||t.l.any (occV n)):=by
 unfold occV;rw [nds_eq,List.any_cons,ndsL_any]
theorem any_takeS {ts: List Tm} {p: Tm→Bool} {k: Nat} {t: Tm} (h: ts[k]? =some t) (h1:(ts.take k).any p=false) (h2: p t=false):(ts.take (k+1)).any p=false:=by
 rw [List.take_add_one,h,List.any_append,h1];simp [h2]
theorem c_IndexFuncV {ba bv cu: Nat} {Au: Option Addr} {u: Tm} {ts: List Tm} (hp: ∀(j: Nat) (t: Tm),ts[j]? =some t→∀(A: Option Addr) (c: Nat) (w: World) (H: PHeap),RowT H A c t.l→Inv w H [(eO ba 46 #[.int .i64 u.kind,.int .i64 u.n,.string u.s,.slice Au u.l.length cu]),(eO bv 53 #[.func (.func 105) #[] #[.pointer (some ⟨ba,0,none⟩),.pointer (some ⟨bv,0,none⟩)]])]→Calls prog 105 #[tv t A c,.pointer (some ⟨ba,0,none⟩),.pointer (some ⟨bv,0,none⟩)] w (fun e w'=>e=.returned (.bool (occV u.n t))∧Step w H [(eO ba 46 #[.int .i64 u.kind,.int .i64 u.n,.string u.s,.slice Au u.l.length cu]),(eO bv 53 #[.func (.func 105) #[] #[.pointer (some ⟨ba,0,none⟩),.pointer (some ⟨bv,0,none⟩)]])] w' H [(eO ba 46 #[.int .i64 u.kind,.int .i64 u.n,.string u.s,.slice Au u.l.length cu]),(eO bv 53 #[.func (.func 105) #[] #[.pointer (some ⟨ba,0,none⟩),.pointer (some ⟨bv,0,none⟩)]])])) {A: Option Addr} {c: Nat} {w0: World} {H: PHeap} (hr: RowT H A c ts) (hI: Inv w0 H [(eO ba 46 #[.int .i64 u.kind,.int .i64 u.n,.string u.s,.slice Au u.l.length cu]),(eO bv 53 #[.func (.func 105) #[] #[.pointer (some ⟨ba,0,none⟩),.pointer (some ⟨bv,0,none⟩)]])]): Calls prog 96 #[(.slice A ts.length c),(.func (.func 105) #[] #[.pointer (some ⟨ba,0,none⟩),.pointer (some ⟨bv,0,none⟩)])] w0 (fun e w'=> ∃ r: Int,e=.returned (iV r)∧(0≤r↔ts.any (occV u.n)=true)∧Step w0 H [(eO ba 46 #[.int .i64 u.kind,.int .i64 u.n,.string u.s,.slice Au u.l.length cu]),(eO bv 53 #[.func (.func 105) #[] #[.pointer (some ⟨ba,0,none⟩),.pointer (some ⟨bv,0,none⟩)]])] w' H [(eO ba 46 #[.int .i64 u.kind,.int .i64 u.n,.string u.s,.slice Au u.l.length cu]),(eO bv 53 #[.func (.func 105) #[] #[.pointer (some ⟨ba,0,none⟩),.pointer (some ⟨bv,0,none⟩)]])]):=by
 have hS:=Step.refl hI;have hlr:=hr.len;refine enter [(.slice A ts.length c),(.func (.func 105) #[] #[.pointer (some ⟨ba,0,none⟩),.pointer (some ⟨bv,0,none⟩)])] func96 rfl ntmps96 rfl fun a ha=>?_;refine wp_seq (ab (Ls rfl ha fun a ha=>?_));refine wpList_nil (aa (wp_seq (wp_seq (ab (Lm rfl ha fun a ha=>?_)))));refine lin rfl (aK T44.und ha rfl rfl fun a ha=>?_);refine Lm rfl ha fun a ha=>?_;refine wpList_nil (aa (wp_block (bn (fun nn_ a w=> ∃(k: Nat),nn_=ts.length - k∧Has [] a 19 [(0,(.slice A ts.length c)),(1,(.func (.func 105) #[] #[.pointer (some ⟨ba,0,none⟩),.pointer (some ⟨bv,0,none⟩)])),(7,(iV ((ts.length: Nat): Int))),(8,(iV ((k: Nat): Int)))]∧Step w0 H [(eO ba 46 #[.int .i64 u.kind,.int .i64 u.n,.string u.s,.slice Au u.l.length cu]),(eO bv 53 #[.func (.func 105) #[] #[.pointer (some ⟨ba,0,none⟩),.pointer (some ⟨bv,0,none⟩)]])] w H [(eO ba 46 (tA u Au cu)),(eO bv 53 #[(.func (.func 105) #[] #[.pointer (some ⟨ba,0,none⟩),.pointer (some ⟨bv,0,none⟩)])])]∧(k≤ts.length)∧((ts.take k).any (occV u.n)=false)) _ ⟨0,rfl,ha.pk rfl,hS,(by omega),rfl⟩ ?_)));intro n1 a w hh;obtain⟨k,hn1,ha,hS,hk,hno⟩:=hh;refine wp_seq (ab (lin rfl (bm (i:=((k: Nat): Int)) (j:=((ts.length: Nat): Int)) ha rfl rfl rfl fun a ha=>?_)));refine wpList_nil (aa (wp_seq (an (t:=9) ha rfl (fun h2 ha=>?_) (fun h2 ha=>?_))))
 ·refine ao ha rfl (wp_skip (aa (wp_seq (wp_block (wp_seq (ab (Lm rfl ha fun a ha=>?_)))))));refine Ls rfl ha fun a ha=>?_;refine wpList_nil (aa (wp_seq (ab (Lm rfl ha fun a ha=>?_))));refine Lm rfl ha fun a ha=>?_;refine Lm rfl ha fun a ha=>?_;obtain⟨t3,b3,off3,e3,cs3,fz3,A3,c3,ht3,hA3,hb3,hc3,hr3⟩:=hr.get (j:=k) (by omega);refine lin rfl (aD (b:=b3) (o:=off3) (j:=k) T44.und T46 hA3 ha rfl rfl (by omega) (by omega) rfl fun a ha=>?_);refine lin rfl (al (vs:=(tL t3 A3 c3)) T46 rfl ha rfl (hS.blkH hb3) rfl hc3 rfl fun a ha=>?_);have hS:=hS.front 1 rfl;have hS:=hS.front 1 rfl;have hk5:=hp _ _ ht3 _ _ _ _ hr3 (Inv.head [(eO ba 46 (tA u Au cu)),(eO bv 53 #[(.func (.func 105) #[] #[.pointer (some ⟨ba,0,none⟩),.pointer (some ⟨bv,0,none⟩)])])] (B:= []) hS.inv);refine lin rfl (bl func105 rfl rfl (ha.evs rfl) ha rfl rfl (hk5) ?_);rintro e w ⟨rfl,hc4⟩;refine⟨_,rfl,fun a ha=>?_⟩;have hS:=Step.frame (Lc:= [(eO ba 46 (tA u Au cu)),(eO bv 53 #[(.func (.func 105) #[] #[.pointer (some ⟨ba,0,none⟩),.pointer (some ⟨bv,0,none⟩)])])]) (R:= []) hS hc4;refine wpList_nil (aa (ar (t:=16) ha rfl (fun h6 ha=>?_) (fun h6 ha=>?_)))
  ·refine ao ha rfl (wp_seq (ab (Lm rfl ha fun a ha=>?_)));refine Ls rfl ha fun a ha=>?_;refine wpList_nil (aa (wp_ret (ay (ah (ah (ay (ah (ret1 rfl ha rfl ?_))))))));have hany_: ts.any (occV u.n)=true:=List.any_eq_true.2 ⟨_,List.mem_of_getElem? ht3,by simpa using h6⟩;rw [hany_];exact⟨(k: Int),rfl,⟨fun _=>rfl,fun _=>by omega⟩,hS⟩
  ·refine ai ha rfl (wp_skip (ap (aa (ab (lin rfl (aM (i:=((k: Nat): Int)) (j:=1) ha rfl rfl rfl (by omega) fun a ha=>?_))))));refine Lm rfl ha fun a ha=>?_;refine wpList_nil (aa (?_));exact⟨ts.length - (k+1),by omega,(k+1),rfl,ha.pk rfl,hS,(by omega),(any_takeS ht3 hno (by simpa using h6))⟩
 ·refine ai ha rfl (wp_exit (aA (aA (aV (aa (wp_seq (ab (Ls rfl ha fun a ha=>?_))))))));refine wpList_nil (aa (wp_ret (ret1 rfl ha rfl ?_)));rw [List.take_of_length_le (by omega)] at hno;rw [hno];exact⟨-1,rfl,⟨fun h=>by omega,fun h=>by cases h⟩,hS⟩
theorem c_ContainsFuncV {ba bv cu: Nat} {Au: Option Addr} {u: Tm} {ts: List Tm} (hp: ∀(j: Nat) (t: Tm),ts[j]? =some t→∀(A: Option Addr) (c: Nat) (w: World) (H: PHeap),RowT H A c t.l→Inv w H [(eO ba 46 #[.int .i64 u.kind,.int .i64 u.n,.string u.s,.slice Au u.l.length cu]),(eO bv 53 #[.func (.func 105) #[] #[.pointer (some ⟨ba,0,none⟩),.pointer (some ⟨bv,0,none⟩)]])]→Calls prog 105 #[tv t A c,.pointer (some ⟨ba,0,none⟩),.pointer (some ⟨bv,0,none⟩)] w (fun e w'=>e=.returned (.bool (occV u.n t))∧Step w H [(eO ba 46 #[.int .i64 u.kind,.int .i64 u.n,.string u.s,.slice Au u.l.length cu]),(eO bv 53 #[.func (.func 105) #[] #[.pointer (some ⟨ba,0,none⟩),.pointer (some ⟨bv,0,none⟩)]])] w' H [(eO ba 46 #[.int .i64 u.kind,.int .i64 u.n,.string u.s,.slice Au u.l.length cu]),(eO bv 53 #[.func (.func 105) #[] #[.pointer (some ⟨ba,0,none⟩),.pointer (some ⟨bv,0,none⟩)]])])) {A: Option Addr} {c: Nat} {w0: World} {H: PHeap} (hr: RowT H A c ts) (hI: Inv w0 H [(eO ba 46 #[.int .i64 u.kind,.int .i64 u.n,.string u.s,.slice Au u.l.length cu]),(eO bv 53 #[.func (.func 105) #[] #[.pointer (some ⟨ba,0,none⟩),.pointer (some ⟨bv,0,none⟩)]])]): Calls prog 61 #[(.slice A ts.length c),(.func (.func 105) #[] #[.pointer (some ⟨ba,0,none⟩),.pointer (some ⟨bv,0,none⟩)])] w0 (fun e w'=>e=.returned (.bool (ts.any (occV u.n)))∧Step w0 H [(eO ba 46 #[.int .i64 u.kind,.int .i64 u.n,.string u.s,.slice Au u.l.length cu]),(eO bv 53 #[.func (.func 105) #[] #[.pointer (some ⟨ba,0,none⟩),.pointer (some ⟨bv,0,none⟩)]])] w' H [(eO ba 46 #[.int .i64 u.kind,.int .i64 u.n,.string u.s,.slice Au u.l.length cu]),(eO bv 53 #[.func (.func 105) #[] #[.pointer (some ⟨ba,0,none⟩),.pointer (some ⟨bv,0,none⟩)]])]):=by
 have hS:=Step.refl hI;refine enter [(.slice A ts.length c),(.func (.func 105) #[] #[.pointer (some ⟨ba,0,none⟩),.pointer (some ⟨bv,0,none⟩)])] func61 rfl ntmps61 rfl fun a ha=>?_;refine wp_seq (ab (Ls rfl ha fun a ha=>?_));refine wpList_nil (aa (wp_seq (ab (Lm rfl ha fun a ha=>?_))));refine Lm rfl ha fun a ha=>?_;have hk2:=c_IndexFuncV hp hr hI;refine lin rfl (Co func96 ha rfl (hk2) ?_);rintro e w ⟨r1,rfl,hi1,hc⟩;refine⟨_,rfl,fun a ha=>?_⟩;have hS:=Step.frame (Lc:= [(eO ba 46 #[.int .i64 u.kind,.int .i64 u.n,.string u.s,.slice Au u.l.length cu]),(eO bv 53 #[.func (.func 105) #[] #[.pointer (some ⟨ba,0,none⟩),.pointer (some ⟨bv,0,none⟩)]])]) (R:= []) hS hc;refine lin rfl (d8 (i:=r1) (j:=0) ha rfl rfl rfl fun a ha=>?_);refine Ls rfl ha fun a ha=>?_;refine wpList_nil (aa (wp_ret (ret1 rfl ha rfl ?_)));refine⟨congrArg _ (congrArg _ ?_),hS⟩;rw [Bool.eq_iff_iff,decide_eq_true_eq];exact hi1
theorem c_visit {ba bv cu: Nat} {Au: Option Addr} {u: Tm}: ∀(t: Tm),∀(A: Option Addr) (c: Nat) (w: World) (H: PHeap),RowT H A c t.l→Inv w H [(eO ba 46 #[.int .i64 u.kind,.int .i64 u.n,.string u.s,.slice Au u.l.length cu]),(eO bv 53 #[.func (.func 105) #[] #[.pointer (some ⟨ba,0,none⟩),.pointer (some ⟨bv,0,none⟩)]])]→Calls prog 105 #[tv t A c,.pointer (some ⟨ba,0,none⟩),.pointer (some ⟨bv,0,none⟩)] w (fun e w'=>e=.returned (.bool (occV u.n t))∧Step w H [(eO ba 46 #[.int .i64 u.kind,.int .i64 u.n,.string u.s,.slice Au u.l.length cu]),(eO bv 53 #[.func (.func 105) #[] #[.pointer (some ⟨ba,0,none⟩),.pointer (some ⟨bv,0,none⟩)]])] w' H [(eO ba 46 #[.int .i64 u.kind,.int .i64 u.n,.string u.s,.slice Au u.l.length cu]),(eO bv 53 #[.func (.func 105) #[] #[.pointer (some ⟨ba,0,none⟩),.pointer (some ⟨bv,0,none⟩)]])]):=by
 refine Tm.ind fun t ih=>?_;intro A c w0 H hr hI;have hS:=Step.refl hI;refine enter [(tv t A c),(pB ba),(pB bv)] func105 rfl ntmps105 rfl fun a ha=>?_;refine wp_seq (ab (lin rfl (aU (cs:=(tA t A c)) hS ha rfl rfl rfl fun b1 a w hS ha=>?_)));refine Ls rfl ha fun a ha=>?_;refine wpList_nil (aa (wp_seq (ab (lin rfl (ac (f:=0) (o2:=0) T46 T3 rfl rfl rfl rfl ha rfl rfl fun a ha=>?_)))));refine lin rfl (af (v:=(iV t.kind)) T3 rfl ha rfl (hS.blkL 0 rfl) rfl rfl fun a ha=>?_);refine lin rfl (bq (i:=t.kind) (j:=1) ha rfl rfl rfl fun a ha=>?_);refine Lm rfl ha fun a ha=>?_;refine an (t:=8) ha rfl (fun h3 ha=>?_) (fun h3 ha=>?_)
 ·refine ae rfl ha rfl rfl rfl (ac (f:=1) (o2:=1) T46 T3 rfl rfl rfl rfl ha rfl rfl fun a ha=>?_);refine ae rfl ha rfl rfl rfl (af (v:=(iV t.n)) T3 rfl ha rfl (hS.blkL 0 rfl) rfl rfl fun a ha=>?_);refine ae rfl ha rfl rfl rfl (ac (f:=1) (o2:=1) T46 T3 rfl rfl rfl rfl ha rfl rfl fun a ha=>?_);refine ae rfl ha rfl rfl rfl (af (v:=(iV u.n)) T3 rfl ha rfl (hS.blkL 1 rfl) rfl rfl fun a ha=>?_);refine ae rfl ha rfl rfl rfl (bq (i:=t.n) (j:=u.n) ha rfl rfl rfl fun a ha=>?_);refine lin rfl (aq ha rfl rfl rfl fun a ha=>?_);refine Lm rfl ha fun a ha=>?_;refine an (t:=15) ha rfl (fun h4 ha=>?_) (fun h4 ha=>?_)
  ·refine Lf rfl ha rfl rfl fun a ha=>?_;refine Lf rfl ha rfl rfl fun a ha=>?_;refine Lf rfl ha rfl rfl fun a ha=>?_;refine Lf rfl ha rfl rfl fun a ha=>?_;refine lin rfl (aq ha rfl rfl rfl fun a ha=>?_);refine Ls rfl ha fun a ha=>?_;refine wpList_nil (aa (wp_ret (ret1 rfl ha rfl ?_)));have hS:=hS.drop;rw [fr];have hp0_:=h3;have hp1_:=h4;exact⟨by simp [*],hS⟩
  ·refine ae rfl ha rfl rfl rfl (ac (f:=3) (o2:=3) T46 T44 rfl rfl rfl rfl ha rfl rfl fun a ha=>?_);refine ae rfl ha rfl rfl rfl (af (v:=(.slice A t.l.length c)) T44 rfl ha rfl (hS.blkL 0 rfl) rfl rfl fun a ha=>?_);refine ae rfl ha rfl rfl rfl (af (v:=(.func (.func 105) #[] #[.pointer (some ⟨ba,0,none⟩),.pointer (some ⟨bv,0,none⟩)])) T53 rfl ha rfl (hS.blkL 2 rfl) rfl rfl fun a ha=>?_);have hS:=hS.front 2 rfl;have hS:=hS.front 2 rfl;have hk6:=c_ContainsFuncV (fun j t_ ht_=>ih j t_ ht_) hr (Inv.head [(eO ba 46 (tA u Au cu)),(eO bv 53 #[(.func (.func 105) #[] #[.pointer (some ⟨ba,0,none⟩),.pointer (some ⟨bv,0,none⟩)])])] (B:= [(eO b1 46 (tA t A c))]) hS.inv);refine ae rfl ha rfl rfl rfl (Co func61 ha rfl (hk6) ?_);rintro e w ⟨rfl,hc5⟩;refine⟨_,rfl,fun a ha=>?_⟩;have hS:=Step.frame (Lc:= [(eO ba 46 (tA u Au cu)),(eO bv 53 #[(.func (.func 105) #[] #[.pointer (some ⟨ba,0,none⟩),.pointer (some ⟨bv,0,none⟩)])])]) (R:= [(eO b1 46 (tA t A c))]) hS hc5;refine lin rfl (am ha rfl rfl rfl fun a ha=>?_);refine Ls rfl ha fun a ha=>?_;refine wpList_nil (aa (wp_ret (ret1 rfl ha rfl ?_)));have hS:=hS.front 2 rfl;have hS:=hS.drop;rw [fr];have hp0_:=h3;have hp1_:=h4;exact⟨by simp [*],hS⟩
 ·refine Lf rfl ha rfl rfl fun a ha=>?_;refine Lf rfl ha rfl rfl fun a ha=>?_;refine Lf rfl ha rfl rfl fun a ha=>?_;refine Lf rfl ha rfl rfl fun a ha=>?_;refine Lf rfl ha rfl rfl fun a ha=>?_;refine lin rfl (am ha rfl rfl rfl fun a ha=>?_);refine Lm rfl ha fun a ha=>?_;refine ae rfl ha rfl rfl rfl (ac (f:=3) (o2:=3) T46 T44 rfl rfl rfl rfl ha rfl rfl fun a ha=>?_);refine ae rfl ha rfl rfl rfl (af (v:=(.slice A t.l.length c)) T44 rfl ha rfl (hS.blkL 0 rfl) rfl rfl fun a ha=>?_);refine ae rfl ha rfl rfl rfl (af (v:=(.func (.func 105) #[] #[.pointer (some ⟨ba,0,none⟩),.pointer (some ⟨bv,0,none⟩)])) T53 rfl ha rfl (hS.blkL 2 rfl) rfl rfl fun a ha=>?_);have hS:=hS.front 2 rfl;have hS:=hS.front 2 rfl;have hk8:=c_ContainsFuncV (fun j t_ ht_=>ih j t_ ht_) hr (Inv.head [(eO ba 46 (tA u Au cu)),(eO bv 53 #[(.func (.func 105) #[] #[.pointer (some ⟨ba,0,none⟩),.pointer (some ⟨bv,0,none⟩)])])] (B:= [(eO b1 46 (tA t A c))]) hS.inv);refine ae rfl ha rfl rfl rfl (Co func61 ha rfl (hk8) ?_);rintro e w ⟨rfl,hc7⟩;refine⟨_,rfl,fun a ha=>?_⟩;have hS:=Step.frame (Lc:= [(eO ba 46 (tA u Au cu)),(eO bv 53 #[(.func (.func 105) #[] #[.pointer (some ⟨ba,0,none⟩),.pointer (some ⟨bv,0,none⟩)])])]) (R:= [(eO b1 46 (tA t A c))]) hS hc7;refine lin rfl (am ha rfl rfl rfl fun a ha=>?_);refine Ls rfl ha fun a ha=>?_;refine wpList_nil (aa (wp_ret (ret1 rfl ha rfl ?_)));have hS:=hS.front 2 rfl;have hS:=hS.drop;rw [fr];have hp0_:=h3;exact⟨by simp [*],hS⟩
end Go.Vk.Try
namespace Go.Vk
theorem ret0r {P: Program} {N: Nat} {m: Env} {a: Act} {w: World} {fn: Func} {R: Ending→World→Prop} (hr: fn.results= #[]) (ha: Has [] a N m) (hR: R (.returned (.tuple #[])) w): bodyPost P fn R .ret a w:=bodyPost_ret (results_none hr _ _ _) ha.dfr hR
end Go.Vk
namespace Go.Vk.As
open Go.RowKit
section
variable {P: Program} {Q: Exit→Act→World→Prop} {D: List Deferred} {N: Nat} {E: Env} {w0: World} {H0: PHeap} {L0 L: List Ent} {s0: S} {als: List Nat} {ini: Nat→List Ent} {sup: Nat→Option Nat}
theorem RlS.some {s s': S} (h: RlS s s') {i: Nat} (hi:(s.ax i).isSome=true):(s'.ax i).isSome=true:=by
 obtain⟨E,hE⟩:=Option.isSome_iff_exists.1 hi;rw [h.ax i E hE];rfl
def okTailF (l: List Oper) (tl j: Nat): Bool:=
 (List.range tl).all fun i=>Nat.beq i j||(List.range (tl+1)).any fun s=>(Nat.blt i s&&!Nat.beq s j)&&(match l[s]? with
  | some o=>o.after.toList.any fun e=>Region.binds .any e&&Nat.beq e.on i
  | none=>false)
def okHeadF (l: List Oper) (tl j: Nat): Bool:=
 okTailF l tl j&&(List.range l.length).all fun s=>!Nat.blt tl s||(match l[s]? with
  | some o=>o.after.toList.any fun e=>Region.binds .any e&&Nat.ble tl e.on&&Nat.blt e.on s
  | none=>false)
def headOff (n tl j: Nat): Array Bool:=((List.range n).map fun i=>Nat.blt i tl&&!Nat.beq i j).toArray
theorem headOff_eq {n tl j: Nat} {listed: Array Bool} (hsz: listed.size=n) (h1: ∀ i,i < tl→i≠j→lof listed i=true) (h0: lof listed j=false) (h2: ∀ i,tl≤i→lof listed i=false): listed=headOff n tl j:=by
 apply Array.ext
 ·simp [headOff,hsz]
 ·intro i hi hi';have e1: lof listed i=listed[i]:=by unfold lof;simp [Array.getD,hi]
  have e2:(headOff n tl j)[i]=(Nat.blt i tl&&!Nat.beq i j):=by simp [headOff]
  rw [← e1,e2]
  by_cases h: i < tl
  ·by_cases e: i=j
   ·subst e;rw [h0,Nat.beq_refl];simp
   ·have hb: Nat.beq i j=false:=by
     cases hb: Nat.beq i j with
     | false=>rfl
     | true=>exact absurd (Nat.eq_of_beq_eq_true hb) e
    have ht: Nat.blt i tl=true:=by simpa [Nat.blt_eq] using h
    rw [h1 i h e,hb,ht];rfl
  ·have ht: Nat.blt i tl=false:=by
    cases hb: Nat.blt i tl with
    | false=>rfl
    | true=>exact absurd (by simpa [Nat.blt_eq] using hb) h
   rw [h2 i (by omega),ht];rfl
theorem draw_headF {l: List Oper} {Φ: List FactS} (tl fj: Nat) (hfj: fj < tl) (hok: Okd tl l N E) (hm: Monos Φ) (htl: tl < l.length) (hh: okHeadF l tl fj=true)
  (hq: ∀(i: Nat) (o: Oper),i < tl→l[i]? =some o→∃ φ,Φ[i]? =some φ∧Quiet ini sup als P l Φ D N E w0 H0 L0 s0 L Q i o φ)
  (hfin: ∀ f a w,DInv ini sup als l Φ D N E w0 H0 L0 s0 L (fun j=>decide (j < tl)) a w→wpAny P .any l.toArray Q (f+(l.length - tl)) (headDone l.length tl) a w)
  (hfo: ∀ f a w,DInv ini sup als l Φ D N E w0 H0 L0 s0 L (fun j=>decide (j < tl∧j≠fj)) a w→wpAny P .any l.toArray Q (f+(l.length - tl+1)) (headOff l.length tl fj) a w) :
  ∀(fuel: Nat) (listed: Array Bool) (a: Act) (w: World),listed.size=l.length→unl l.length (lof listed)≤fuel→(∀ s o,lof listed s=true→l[s]? =some o→∀ e ∈ o.after,Region.binds .any e=true→lof listed e.on=true)→(∀ s,tl≤s→lof listed s=false)→
   DInv ini sup als l Φ D N E w0 H0 L0 s0 L (lof listed) a w→wpAny P .any l.toArray Q fuel listed a w:=by
 have hh1: okTailF l tl fj=true:=by
  unfold okHeadF at hh;rw [Bool.and_eq_true] at hh;exact hh.1
 have hh2: ∀ s o,tl < s→l[s]? =some o→∃ e ∈ o.after,Region.binds .any e=true∧tl≤e.on∧e.on < s:=by
  intro s o hs ho;unfold okHeadF at hh;rw [Bool.and_eq_true] at hh;have h:=List.all_eq_true.1 hh.2 s (List.mem_range.2 (List.getElem?_eq_some_iff.1 ho).1);rw [ho,show Nat.blt tl s=true from by simpa [Nat.blt_eq] using hs] at h;simp only [Bool.not_true,Bool.false_or] at h;obtain⟨e,he,h⟩:=List.any_eq_true.1 h;simp only [Bool.and_eq_true] at h;exact⟨e,Array.mem_toList_iff.1 he,h.1.1,Nat.le_of_ble_eq_true h.1.2,by simpa [Nat.blt_eq] using h.2⟩
 have hless: ∀(b: Nat→Bool) i,i < l.length→b i=false→unl l.length (upTo b i) < unl l.length b:=by
  intro b i hi hb;refine ck (x:=i) (fun y hy=>?_) (List.mem_range.2 hi) (by simp [hb]) (by simp [upTo]);simp only [Bool.not_eq_true'] at hy ⊢
  cases hby: b y with
  | false=>rfl
  | true =>
   have:=(aO b i y).2 (.inr hby);rw [this] at hy
   cases hy
 have hfull0: ∀(b: Nat→Bool),(∀ i,i < tl→b i=true)→(∀ s,tl≤s→b s=false)→l.length - tl≤unl l.length b:=by
  intro b h1 h2;unfold unl;have hs:(List.range l.length).countP (fun i=>!b i)=(List.range l.length).countP (fun i=>decide (tl≤i)):=by
   refine List.countP_congr fun i _=>?_
   by_cases h: i < tl
   ·rw [h1 i h];simp;omega
   ·rw [h2 i (by omega)];simp;omega
  rw [hs];have key: ∀ m,m - tl≤(List.range m).countP (fun i=>decide (tl≤i)):=by
   intro m
   induction m with
   | zero=>simp
   | succ m ih =>
    rw [List.range_succ,List.countP_append,List.countP_singleton]
    by_cases h: tl≤m
    ·simp [h];omega
    ·simp [h];omega
  exact key l.length
 have hfull: ∀(listed: Array Bool),listed.size=l.length→(∀ i,i < tl→lof listed i=true)→(∀ s,tl≤s→lof listed s=false)→l.length - tl≤unl l.length (lof listed):=fun listed _=>hfull0 (lof listed);have hfullO: ∀(listed: Array Bool),listed.size=l.length→(∀ i,i < tl→i≠fj→lof listed i=true)→lof listed fj=false→(∀ s,tl≤s→lof listed s=false)→l.length - tl+1≤unl l.length (lof listed):=by
  intro listed hsz h1 h0 h2;have h3:=hless (lof listed) fj (by omega) h0;have h4:=hfull0 (upTo (lof listed) fj) (fun i hi=>(aO _ _ _).2 (by
   by_cases e: i=fj
   ·exact .inl e
   ·exact .inr (h1 i hi e))) (fun s hs=>by
   cases hb: upTo (lof listed) fj s with
   | false=>rfl
   | true =>
    rcases (aO _ _ _).1 hb with h5 | h5
    ·omega
    ·rw [h2 s hs] at h5;cases h5)
  omega
 intro fuel
 induction fuel with
 | zero =>
  intro listed a w hsz hun hc ht hI
  exfalso
  have:=hless (lof listed) tl htl (ht tl (Nat.le_refl _));omega
 | succ fuel ih =>
  intro listed a w hsz hun hc ht hI
  by_cases hdone: ∀ i,i < tl→i≠fj→lof listed i=true
  ·by_cases hoff: lof listed fj=true
   ·have hdone: ∀ i,i < tl→lof listed i=true:=fun i hi=>by
     by_cases e: i=fj
     ·rw [e];exact hoff
     ·exact hdone i hi e
    have heq: listed=headDone l.length tl:=cM hsz (Nat.le_of_lt htl) hdone ht;have hle:=hfull listed hsz hdone ht;have hb: lof listed=fun j=>decide (j < tl):=by
     funext j
     by_cases h: j < tl
     ·rw [hdone j h];simp [h]
     ·rw [ht j (by omega)];simp [h]
    rw [hb] at hI;have:=hfin (fuel+1 - (l.length - tl)) a w hI;rw [show fuel+1 - (l.length - tl)+(l.length - tl)=fuel+1 by omega] at this;rw [heq];exact this
   ·have hoff: lof listed fj=false:=by simpa using hoff
    have heq: listed=headOff l.length tl fj:=headOff_eq hsz hdone hoff ht;have hle:=hfullO listed hsz hdone hoff ht;have hb: lof listed=fun j=>decide (j < tl∧j≠fj):=by
     funext j
     by_cases h: j < tl
     ·by_cases e: j=fj
      ·subst e;rw [hoff];simp
      ·rw [hdone j h e];simp [h,e]
     ·rw [ht j (by omega)];simp [h]
    rw [hb] at hI;have:=hfo (fuel+1 - (l.length - tl+1)) a w hI;rw [show fuel+1 - (l.length - tl+1)+(l.length - tl+1)=fuel+1 by omega] at this;rw [heq];exact this
  ·have hall2: ∀(o: Oper),l[tl]? =some o→(∀ e ∈ o.after,Region.binds .any e=true→lof listed e.on=true)→∀ k,k≤tl→∀ j,j < tl→j≠fj→tl - j≤k→lof listed j=true:=by
    intro o ho hdeps k
    induction k with
    | zero=>intro _ j hj hjf hk;omega
    | succ k ihk =>
     intro hk' j hj hjf hk;have h1:=List.all_eq_true.1 hh1 j (List.mem_range.2 hj);rw [show Nat.beq j fj=false from by
      cases hb: Nat.beq j fj with
      | false=>rfl
      | true=>exact absurd (Nat.eq_of_beq_eq_true hb) hjf,Bool.false_or] at h1
     obtain⟨s,hs,h2⟩:=List.any_eq_true.1 h1;rw [List.mem_range] at hs;simp only [Bool.and_eq_true] at h2;have hjs: j < s:=Nat.le_of_ble_eq_true h2.1.1;have hsf: s≠fj:=fun e=>by
      have h4:=h2.1.2;rw [e,Nat.beq_refl] at h4;cases h4
     have h3:=h2.2
     cases hls: l[s]? with
     | none=>rw [hls] at h3;cases h3
     | some os =>
      rw [hls] at h3;obtain⟨e,he,hej⟩:=List.any_eq_true.1 h3;have he:=Array.mem_toList_iff.1 he;simp only [Bool.and_eq_true] at hej;have hej':=Nat.eq_of_beq_eq_true hej.2;rw [← hej']
      by_cases hsi: s=tl
      ·subst hsi;rw [ho] at hls;obtain rfl:=Option.some.inj hls;exact hdeps e he hej.1
      ·exact hc s os (ihk (by omega) s (by omega) hsf (by omega)) hls e he hej.1
   refine⟨fun hr=>?_,fun i hi=>?_⟩
   ·exfalso
    refine hdone fun i hit _=>hok.acy (lof listed) (fun i o ho hdeps=>?_) i (by omega)
    cases hb: lof listed i with
    | true=>rfl
    | false =>
     have: i ∈ Region.ready .any l.toArray listed:=(bK hsz).2 ⟨o,ho,hb,hdeps⟩;rw [hr] at this
     cases this
   ·obtain⟨o,ho,hbi,hdeps⟩:=(bK hsz).1 hi;have hil: i < l.length:=(List.getElem?_eq_some_iff.1 ho).1;have hit: i < tl:=by
     rcases Nat.lt_trichotomy i tl with h | h | h
     ·exact h
     ·subst h;exact absurd (fun j hj hjf=>hall2 o ho hdeps i (Nat.le_refl _) j hj hjf (by omega)) hdone
     ·obtain⟨e,he,hb,h1,h2⟩:=hh2 i o h ho;have:=hdeps e he hb;rw [ht e.on h1] at this
      cases this
    obtain⟨φ,hφ,hqi⟩:=hq i o hit ho;refine bX hok hm ho hφ hqi hI hbi (fun j hj=>Classical.byContradiction fun hn=>by rw [ht j (by omega)] at hj;cases hj) hit hdeps hc fun a' w' hI'=>?_;refine ih _ a' w' (by simpa using hsz) ?_ ?_ ?_ ?_
    ·rw [aX hsz hil];have:=hless (lof listed) i hil hbi;omega
    ·rw [aX hsz hil];intro s o' hs ho' e he hb
     rcases (aO _ _ _).1 hs with rfl | hs
     ·rw [ho] at ho';obtain rfl:=Option.some.inj ho';exact(aO _ _ _).2 (.inr (hdeps e he hb))
     ·exact(aO _ _ _).2 (.inr (hc s o' hs ho' e he hb))
    ·intro s hs;rw [aX hsz hil]
     cases hb: upTo (lof listed) i s with
     | false=>rfl
     | true =>
      rcases (aO _ _ _).1 hb with h1 | h1
      ·omega
      ·rw [ht s hs] at h1;cases h1
    ·rw [aX hsz hil];exact hI'
theorem any_headF {l: List Oper} {a: Act} {w: World} (tl fj: Nat) (Φ: List FactS) (hok: okDraw tl l N E=true) (htl: Nat.blt tl l.length=true) (hft: Nat.blt fj tl=true) (hh: okHeadF l tl fj=true) (hm: Monos Φ) (h0x: ∀ i,s0.ax i=none) (hS: Step w0 H0 L0 w s0.H (aents ini sup als s0.ax++L)) (ha: Has D a N E) (hq: QuietsI (Quiet ini sup als P l Φ D N E w0 H0 L0 s0 L Q) 0 (l.take tl) Φ)
  (k: ∀ f a w s',RlS s0 s'→Step w0 H0 L0 w s'.H (aents ini sup als s'.ax++L)→Has D a N E→(∀(i: Nat) (o: Oper) (φ: FactS),(l.take tl)[i]? =some o→Φ[i]? =some φ→∃ v,(∀ d,o.dst=some d→a.tmps[d]? =some v)∧φ s' v)→wpAny P .any l.toArray Q (f+(l.length - tl)) (headDone l.length tl) a w)
  (ko: ∀ f a w s',RlS s0 s'→Step w0 H0 L0 w s'.H (aents ini sup als s'.ax++L)→Has D a N E→(∀(i: Nat) (o: Oper) (φ: FactS),Nat.beq i fj=false→(l.take tl)[i]? =some o→Φ[i]? =some φ→∃ v,(∀ d,o.dst=some d→a.tmps[d]? =some v)∧φ s' v)→wpAny P .any l.toArray Q (f+(l.length - tl+1)) (headOff l.length tl fj) a w) :
  wpAny P .any l.toArray Q l.toArray.size (Array.replicate l.toArray.size false) a { w with drawn:=w.drawn+1 }:=by
 have htl': tl < l.length:=by simpa [Nat.blt_eq] using htl
 have h0: lof (Array.replicate l.toArray.size false)=fun _=>false:=by
  funext i
  unfold lof;simp only [Array.getD_eq_getD_getElem?,Array.getElem?_replicate]
  split <;> rfl
 refine draw_headF (ini:=ini) (sup:=sup) (als:=als) (s0:=s0) (L:=L) (Φ:=Φ) tl fj (by simpa [Nat.blt_eq] using hft) (bZ hok) hm htl' hh (fun i o hi ho=>by have:=hq.get i o (by rw [List.getElem?_take,if_pos hi];exact ho);simpa only [Nat.zero_add] using this) ?_ ?_ _ _ a _ (by simp) (by rw [h0];exact ei _ _) ?_ ?_ ?_
 ·intro f a w hI;obtain⟨ha,H',hle,hS,hfr,hf⟩:=hI;refine k f a w H' hle hS ha fun i o φ ho hφ=>?_;rw [List.getElem?_take] at ho
  split at ho
  ·rename_i hi
   exact hf i o φ (by simpa using hi) ho hφ
  ·cases ho
 ·intro f a w hI;obtain⟨ha,H',hle,hS,hfr,hf⟩:=hI;refine ko f a w H' hle hS ha fun i o φ hij ho hφ=>?_;rw [List.getElem?_take] at ho
  split at ho
  ·rename_i hi
   exact hf i o φ (decide_eq_true ⟨hi,fun e=>by rw [e,Nat.beq_refl] at hij;cases hij⟩) ho hφ
  ·cases ho
 ·rw [h0];intro s o h
  cases h
 ·intro s _;rw [h0]
 ·rw [h0];exact⟨ha,s0,RlS.refl _,bV hS,fun i _=>h0x i,fun i o φ h=>by cases h⟩
theorem c_draw_headF {l: List Oper} {id: Nat} {a: Act} {w: World} (tl fj: Nat) (Φ: List FactS) (hP: P.follows .mixedOrders=true) (hok: okDraw tl l N E=true) (htl: Nat.blt tl l.length=true) (hft: Nat.blt fj tl=true) (hh: okHeadF l tl fj=true) (hm: Monos Φ) (h0x: ∀ i,s0.ax i=none) (hS: Step w0 H0 L0 w s0.H (aents ini sup als s0.ax++L)) (ha: Has D a N E) (hq: QuietsI (Quiet ini sup als P l Φ D N E w0 H0 L0 s0 L Q) 0 (l.take tl) Φ)
  (k: ∀ f a w s',RlS s0 s'→Step w0 H0 L0 w s'.H (aents ini sup als s'.ax++L)→Has D a N E→(∀(i: Nat) (o: Oper) (φ: FactS),(l.take tl)[i]? =some o→Φ[i]? =some φ→∃ v,(∀ d,o.dst=some d→a.tmps[d]? =some v)∧φ s' v)→wpAny P .any l.toArray Q (f+(l.length - tl)) (headDone l.length tl) a w)
  (ko: ∀ f a w s',RlS s0 s'→Step w0 H0 L0 w s'.H (aents ini sup als s'.ax++L)→Has D a N E→(∀(i: Nat) (o: Oper) (φ: FactS),Nat.beq i fj=false→(l.take tl)[i]? =some o→Φ[i]? =some φ→∃ v,(∀ d,o.dst=some d→a.tmps[d]? =some v)∧φ s' v)→wpAny P .any l.toArray Q (f+(l.length - tl+1)) (headOff l.length tl fj) a w) :
  (Code.region id l.toArray true).wp P Q a w:=wp_region_any hP (any_headF tl fj Φ hok htl hft hh hm h0x hS ha hq k ko)
end
end Go.Vk.As
namespace Go.Vk.Try
open Go.RowKit
theorem bS {w0: World} {H: PHeap} {q p: Nat} {ws bs: List Wd} {h: HS} {L: List Ent} (hI: Inv w0 H L) (hM: HM q p ws bs h L) (hlw: ws.length≤100000) (hlb: bs.length≤100000) {k: Int} {y: Wd} {ws1: List Wd} (he: takeP ws k=(y,ws1)): Calls prog 73 #[.pointer (some ⟨q,0,none⟩),.int .i64 k] w0 (fun e w'=> ∃ L',e=.returned (wv y)∧HM q p ws1 bs h L'∧Step w0 H L w' H L'):=by
 obtain⟨Lt,Lh,rfl,hD,hK⟩:=hM;refine Calls.mono (c_ptake (Inv.head Lt (B:=Lh) hI) hD hlw hlb) ?_;rintro e w ⟨L',rfl,hD',hc⟩;rw [he] at *;exact⟨L'++Lh,rfl,⟨L',Lh,rfl,hD',hK⟩,Step.frame (Lc:=Lt) (R:=Lh) (Step.refl hI) hc⟩
theorem c_mshared {w0: World} {H: PHeap} {q p: Nat} {ws bs: List Wd} {h: HS} {L: List Ent} (hI: Inv w0 H L) (hM: HM q p ws bs h L) (hlw: ws.length≤100000) (hlb: bs.length≤100000) {k: Int} {y: Wd} {ws1: List Wd} (he: shareP ws k=(y,ws1)): Calls prog 74 #[.pointer (some ⟨q,0,none⟩),.int .i64 k] w0 (fun e w'=> ∃ L',e=.returned (wv y)∧HM q p ws1 bs h L'∧Step w0 H L w' H L'):=by
 obtain⟨Lt,Lh,rfl,hD,hK⟩:=hM;refine Calls.mono (c_pshared (Inv.head Lt (B:=Lh) hI) hD hlw hlb) ?_;rintro e w ⟨L',rfl,hD',hc⟩;rw [he] at *;exact⟨L'++Lh,rfl,⟨L',Lh,rfl,hD',hK⟩,Step.frame (Lc:=Lt) (R:=Lh) (Step.refl hI) hc⟩
theorem fg {w0: World} {H: PHeap} {q p: Nat} {ws bs: List Wd} {h: HS} {L: List Ent} (hI: Inv w0 H L) (hM: HM q p ws bs h L) (hlw: ws.length≤100000) (hlb: bs.length≤100000) {x: Wd} {e0: Int}: Calls prog 72 #[.pointer (some ⟨q,0,none⟩),wv x,.int .i64 e0] w0 (fun e w'=> ∃ H' L',e=.returned (.tuple #[])∧HM q p (holdP ws x e0) bs h L'∧Step w0 H L w' H' L'):=by
 obtain⟨Lt,Lh,rfl,hD,hK⟩:=hM;refine Calls.mono (c_phold (Inv.head Lt (B:=Lh) hI) hD hlw hlb) ?_;rintro e w ⟨H',L',rfl,hD',hc⟩;exact⟨H',L'++Lh,rfl,⟨L',Lh,rfl,hD',hK⟩,Step.frame (Lc:=Lt) (R:=Lh) (Step.refl hI) hc⟩
theorem c_mfun {w0: World} {H: PHeap} {q p: Nat} {ws bs: List Wd} {h: HS} {L: List Ent} (hI: Inv w0 H L) (hM: HM q p ws bs h L) (hO: h.Ok) {A: Option Addr} {c: Nat} {xs: List Wd} (hr: RdG 4 Wd.cells w0 L A c xs) {s: ByteArray} {h': HS} {u: Wd} {e0: Int} (he: h.fun_ s xs=(h',(u,e0))): Calls prog 16 #[.pointer (some ⟨p,0,none⟩),.string s,.slice A xs.length c] w0 (fun e w'=> ∃ L',e=.returned (.tuple #[wv u,.int .i64 e0])∧HM q p ws bs h' L'∧Step w0 H L w' H L'):=by
 obtain⟨Lt,Lh,rfl,hD,hK⟩:=hM;refine Calls.mono (fD (Step.tail Lt (Step.refl hI)) hK hO (hr.fewer (bz Lt))) ?_;rintro e w ⟨L',rfl,hK',hc⟩;rw [he] at *;exact⟨Lt++L',rfl,⟨Lt,L',rfl,hD,hK'⟩,Step.frameR Lt (Step.refl hI) hc⟩
theorem c_mvec {w0: World} {H: PHeap} {q p: Nat} {ws bs: List Wd} {h: HS} {L: List Ent} (hI: Inv w0 H L) (hM: HM q p ws bs h L) (hO: h.Ok) {A: Option Addr} {c: Nat} {xs: List Wd} (hr: RdG 4 Wd.cells w0 L A c xs) {h': HS} {u: Wd} {e0: Int} (he: h.vec xs=(h',(u,e0))): Calls prog 19 #[.pointer (some ⟨p,0,none⟩),.slice A xs.length c] w0 (fun e w'=> ∃ L',e=.returned (.tuple #[wv u,.int .i64 e0])∧HM q p ws bs h' L'∧Step w0 H L w' H L'):=by
 obtain⟨Lt,Lh,rfl,hD,hK⟩:=hM;refine Calls.mono (c_hVec (Step.tail Lt (Step.refl hI)) hK hO (hr.fewer (bz Lt))) ?_;rintro e w ⟨L',rfl,hK',hc⟩;rw [he] at *;exact⟨Lt++L',rfl,⟨Lt,L',rfl,hD,hK'⟩,Step.frameR Lt (Step.refl hI) hc⟩
theorem c_inside {w0: World} {H: PHeap} {q p: Nat} {ws bs: List Wd} {h: HS} {L: List Ent} (hI: Inv w0 H L) (hM: HM q p ws bs h L) {v_ y_: Wd}: Calls prog 76 #[(pB q),(.agg (wA v_)),(.agg (wA y_))] w0 (fun e w'=> ∃ H',e=.returned (.bool (insP h.S v_ y_))∧Step w0 H L w' H' L):=by
 obtain⟨_,Lh,rfl,⟨Aw,cw,Ab,cb,ew,eb,rfl,hRw,hRb⟩,hK⟩:=hM;have hS:=Step.refl hI;have hcw_:=Row.cap hRw;have hcb_:=Row.cap hRb;refine enter [(pB q),(.agg (wA v_)),(.agg (wA y_))] func76 rfl ntmps76 rfl fun a ha=>?_;refine wp_seq (ab (lin rfl (aU (cs:=(wA v_)) hS ha rfl rfl rfl fun b1 a w hS ha=>?_)));refine lin rfl (aU (cs:=(wA y_)) hS ha rfl rfl rfl fun b3 a w hS ha=>?_);refine Ls rfl ha fun a ha=>?_;refine wpList_nil (aa (wp_seq ?_));have hS_:=hS;refine As.c_draw_head (ini:=(As.il [])) (sup:=(As.sl [(9,10)])) (als:= [9,10]) (s0:=⟨H,fun _=>none⟩) (L:=((eO b3 34 (wA y_))::(eO b1 34 (wA v_))::(eO q 70 (hA p Aw ws.length cw Ab bs.length cb))::ew::eb::Lh)) (N:=45) (E:= [(0,(pB q)),(4,(pB b1)),(5,(pB b3))]) 11 [FcV (pB q),FcV (pB q),FcV (pB q),FcV (pB p),FcV (.agg (wA y_)),fun q_ v=>(fun H v=> ∃ A c,v=(.tuple #[(tv (((readS (HS.S h) y_).1)) A c),(iV ((readS (HS.S h) y_).2))])∧RowT H A c ((readS (HS.S h) y_).1).l) q_.H v,fun q_ v=>(fun H v=> ∃ A c,v=(.tuple #[(tv (((readS (HS.S h) y_).1)) A c),(iV ((readS (HS.S h) y_).2))])∧RowT H A c ((readS (HS.S h) y_).1).l) q_.H v,fun q_ v=>(fun H v=> ∃ A c,v=(tv (((readS (HS.S h) y_).1)) A c)∧RowT H A c ((readS (HS.S h) y_).1).l) q_.H v,FcV (iV ((readS (HS.S h) y_).2)),fun s v=> ∃ b,s.ax 9=some [(some b,(.cells aZ 46 (0,0)))]∧v=.pointer (some ⟨b,0,none⟩),fun s _=> ∃(b: Nat) (A: Option Addr) (c: Nat),s.ax 9=some [(some b,(.cells aZ 46 (0,0)))]∧s.ax 10=some [(eO b 46 (tA (((readS (HS.S h) y_).1)) A c))]∧RowT s.H A c ((readS (HS.S h) y_).1).l] mixed rfl rfl rfl (As.M1 (As.M1 (As.M1 (As.M1 (As.M1 (As.Monos.cons (fun _ _ v hl hq_=>(fun _ _ _ hl ⟨A,c,e,hr⟩=>⟨A,c,e,hr.mono hl⟩: ∀(H H': PHeap) (v: Value),Le H H'→(fun H v=> ∃ A c,v=(.tuple #[(tv (((readS (HS.S h) y_).1)) A c),(iV ((readS (HS.S h) y_).2))])∧RowT H A c ((readS (HS.S h) y_).1).l) H v→(fun H v=> ∃ A c,v=(.tuple #[(tv (((readS (HS.S h) y_).1)) A c),(iV ((readS (HS.S h) y_).2))])∧RowT H A c ((readS (HS.S h) y_).1).l) H' v) _ _ _ hl.le hq_) (As.Monos.cons (fun _ _ v hl hq_=>(fun _ _ _ hl ⟨A,c,e,hr⟩=>⟨A,c,e,hr.mono hl⟩: ∀(H H': PHeap) (v: Value),Le H H'→(fun H v=> ∃ A c,v=(.tuple #[(tv (((readS (HS.S h) y_).1)) A c),(iV ((readS (HS.S h) y_).2))])∧RowT H A c ((readS (HS.S h) y_).1).l) H v→(fun H v=> ∃ A c,v=(.tuple #[(tv (((readS (HS.S h) y_).1)) A c),(iV ((readS (HS.S h) y_).2))])∧RowT H A c ((readS (HS.S h) y_).1).l) H' v) _ _ _ hl.le hq_) (As.Monos.cons (fun _ _ v hl hq_=>(fun _ _ _ hl ⟨A,c,e,hr⟩=>⟨A,c,e,hr.mono hl⟩: ∀(H H': PHeap) (v: Value),Le H H'→(fun H v=> ∃ A c,v=(tv (((readS (HS.S h) y_).1)) A c)∧RowT H A c ((readS (HS.S h) y_).1).l) H v→(fun H v=> ∃ A c,v=(tv (((readS (HS.S h) y_).1)) A c)∧RowT H A c ((readS (HS.S h) y_).1).l) H' v) _ _ _ hl.le hq_) (As.M1 (As.Monos.cons (fun _ _ _ hl ⟨b,h,e⟩=>⟨b,hl.get h,e⟩) (As.Monos.cons (fun _ _ _ hl ⟨b,A,c,h1,h2,hr⟩=>⟨b,A,c,hl.get h1,hl.get h2,hr.mono hl.le⟩) (As.Monos.nil)))))))))))) (fun _=>rfl) hS (ha.pk rfl) (As.QuietsI.c4 ?_ ?_ ?_ ?_ (As.QuietsI.c4 ?_ ?_ ?_ ?_ (As.QuietsI.c2 ?_ ?_ (As.QuietsI.cons ?_ (As.QuietsI.nil))))) (fun f_ a w s_ hls hS ha hdr_=>?_)
 ·refine As.Qx rfl fun a w H_ ax_ hle hax_ hS ha hd hls=>?_;have hSf:=hS;exact ak ha rfl rfl fun a ha=>As.ql ha hSf
 ·refine As.Qx1 0 rfl fun a w H_ ax_ hle hax_ hS ha hd hls=>?_;have hSf:=hS;exact aw ha rfl rfl fun a ha=>As.ql ha hSf
 ·refine As.Qx1 1 rfl fun a w H_ ax_ hle hax_ hS ha hd hls=>?_;have hSf:=hS;exact ac (f:=0) (o2:=0) T70 T24 rfl rfl rfl rfl ha rfl rfl fun a ha=>As.ql ha hSf
 ·refine As.Qx1 2 rfl fun a w H_ ax_ hle hax_ hS ha hd hls=>?_;have hSf:=hS;have hS:=Step.dropN _ _ hS;exact af (v:=(pB p)) T24 rfl ha rfl (hS.blkL 2 rfl) rfl rfl fun a ha=>As.ql ha hSf
 ·refine As.Qx rfl fun a w H_ ax_ hle hax_ hS ha hd hls=>?_;have hSf:=hS;have hS:=Step.dropN _ _ hS;exact al (vs:=(wL y_)) T34 rfl ha rfl (hS.blkL 0 rfl) rfl (ag rfl) rfl fun a ha=>As.ql ha hSf
 ·refine As.Qx1 3 rfl fun a w H_ ax_ hle hax_ hS ha hd hls=>?_;obtain⟨_,ha,rfl⟩:=hd.g ha 4 rfl;have hSf:=hS;have hSr:=Step.dropN _ _ hS;have hS:=Step.perm hS (List.Perm.of_eq (List.append_assoc (As.aents (As.il []) (As.sl [(9,10)]) [9,10] ax_) [(eO b3 34 (wA y_)),(eO b1 34 (wA v_)),(eO q 70 (hA p Aw ws.length cw Ab bs.length cb)),ew,eb] Lh).symm);have hk6:=fH (hS.tail ((As.aents (As.il []) (As.sl [(9,10)]) [9,10] ax_)++ [(eO b3 34 (wA y_)),(eO b1 34 (wA v_)),(eO q 70 (hA p Aw ws.length cw Ab bs.length cb)),ew,eb])) hK (x:=y_);refine id (Co func20 ha rfl (hk6) ?_);rintro e w ⟨H5,A5,c5,rfl,hr5,hc5⟩;refine⟨_,rfl,fun a ha=>?_⟩;have hS:=hS.frameR ((As.aents (As.il []) (As.sl [(9,10)]) [9,10] ax_)++ [(eO b3 34 (wA y_)),(eO b1 34 (wA v_)),(eO q 70 (hA p Aw ws.length cw Ab bs.length cb)),ew,eb]) hc5;have hS:=Step.perm hS (List.Perm.of_eq (List.append_assoc (As.aents (As.il []) (As.sl [(9,10)]) [9,10] ax_) [(eO b3 34 (wA y_)),(eO b1 34 (wA v_)),(eO q 70 (hA p Aw ws.length cw Ab bs.length cb)),ew,eb] Lh));exact As.qdone (s:=⟨H_,ax_⟩) hc5.le ha hS ⟨_,_,rfl,hr5⟩
 ·refine As.Qx rfl fun a w H_ ax_ hle hax_ hS ha hd hls=>?_;obtain⟨_,ha,A5,c5,rfl,hr5⟩:=hd.g ha 5 rfl;have hSf:=hS;refine id (ak ha rfl rfl fun a ha=>?_);exact As.qdone (s:=⟨H_,ax_⟩) (Le.refl _) ha hSf ⟨_,_,rfl,hr5⟩
 ·refine As.Qx rfl fun a w H_ ax_ hle hax_ hS ha hd hls=>?_;obtain⟨_,ha,A5,c5,rfl,hr5⟩:=hd.g ha 6 rfl;have hSf:=hS;refine id (ad (v:=(tv (((readS (HS.S h) y_).1)) A5 c5)) ha rfl rfl rfl fun a ha=>?_);exact As.qdone (s:=⟨H_,ax_⟩) (Le.refl _) ha hSf ⟨_,_,rfl,hr5⟩
 ·refine As.Qx rfl fun a w H_ ax_ hle hax_ hS ha hd hls=>?_;obtain⟨_,ha,A5,c5,rfl,hr5⟩:=hd.g ha 6 rfl;have hSf:=hS;exact ad (v:=(iV ((readS (HS.S h) y_).2))) ha rfl rfl rfl fun a ha=>As.ql ha hSf
 ·refine As.Qx rfl fun a w H_ ax_ hle hax_ hS ha hd hls=>?_;have hS: Step w0 H ([(eO q 70 #[.pointer (some ⟨p,0,none⟩),.slice Aw ws.length cw,.slice Ab bs.length cb,.bool true]),ew,eb]++Lh) w H_ ((As.aents (As.il []) (As.sl [(9,10)]) [] ax_++As.aents (As.il []) (As.sl [(9,10)]) [10] ax_++((eO b3 34 (wA y_))::(eO b1 34 (wA v_))::(eO q 70 (hA p Aw ws.length cw Ab bs.length cb))::ew::eb::Lh))):=As.opn (s:=⟨H_,ax_⟩) [] [9] [10] [] rfl (As.con0 hax_ rfl) hS;refine aE (cs:=aZ) T46 hS ha rfl rfl fun ab7 a w hS ha=>?_;exact As.qown (i:=9) (dst:=some 7) (s:=⟨H_,ax_⟩) (E:= [(some ab7,(.cells aZ 46 (0,0)))]) [] [9] [10] rfl rfl hax_ (Le.refl _) ha.dfr (As.has_at ha) hS As.con1 ⟨ab7,rfl,rfl⟩
 ·refine As.Qx rfl fun a w H_ ax_ hle hax_ hS ha hd hls=>?_;obtain⟨_,ha,ab7,hx_ab7,rfl⟩:=hd.g ha 9 rfl;have hx_ab7: ax_ 9=some [(some ab7,(.cells aZ 46 (0,0)))]:=hx_ab7;obtain⟨_,ha,A5,c5,rfl,hr5⟩:=hd.g ha 7 rfl;have hS: Step w0 H ([(eO q 70 #[.pointer (some ⟨p,0,none⟩),.slice Aw ws.length cw,.slice Ab bs.length cb,.bool true]),ew,eb]++Lh) w H_ ((some ab7,(.cells aZ 46 (0,0)))::(As.aents (As.il []) (As.sl [(9,10)]) [] ax_++As.aents (As.il []) (As.sl [(9,10)]) [] ax_++((eO b3 34 (wA y_))::(eO b1 34 (wA v_))::(eO q 70 (hA p Aw ws.length cw Ab bs.length cb))::ew::eb::Lh))):=As.opn (s:=⟨H_,ax_⟩) [] [9,10] [] [(some ab7,(.cells aZ 46 (0,0)))] rfl (As.con2 rfl rfl rfl hx_ab7 hax_) hS;refine id (aj (cs':=(tA (((readS (HS.S h) y_).1)) A5 c5)) T46 hS (i:=0) rfl ha rfl rfl rfl rfl rfl rfl fun a w hS ha=>?_);exact As.qown (i:=10) (dst:=none) (s:=⟨H_,ax_⟩) (E:= [(eO ab7 46 (tA (((readS (HS.S h) y_).1)) A5 c5))]) [] [9,10] [] rfl rfl hax_ (Le.refl _) ha.dfr (v:=undef) (fun _ h=>by cases h) hS (.inl (As.con2' rfl rfl)) ⟨ab7,A5,c5,hx_ab7,rfl,hr5⟩
 obtain⟨H11,ax_⟩:=s_;have hle11: Le H H11:=hls.le;dsimp only at hdr_ hS;obtain⟨_,ha,rfl⟩:=As.Dd ha hdr_ 8 rfl;obtain⟨_,ha,ab7,hx_ab7,rfl⟩:=As.Dd ha hdr_ 9 rfl;have hx_ab7: ax_ 9=some [(some ab7,(.cells aZ 46 (0,0)))]:=hx_ab7;obtain⟨_,hv_,sb9,A5,c5,hq_sb9,hx_sb9,hr5⟩:=hdr_ 10 _ _ rfl rfl;have hx_sb9: ax_ 10=some [(eO sb9 46 (tA (((readS (HS.S h) y_).1)) A5 c5))]:=hx_sb9;obtain rfl: ab7=sb9:=by have h_:=(hx_ab7).symm.trans hq_sb9;simpa using h_
 have hS: Step w0 H ([(eO q 70 #[.pointer (some ⟨p,0,none⟩),.slice Aw ws.length cw,.slice Ab bs.length cb,.bool true]),ew,eb]++Lh) w H11 ((eO ab7 46 (tA (((readS (HS.S h) y_).1)) A5 c5))::(eO b3 34 (wA y_))::(eO b1 34 (wA v_))::(eO q 70 (hA p Aw ws.length cw Ab bs.length cb))::ew::eb::Lh):=by
  have h_:=hS;unfold As.aents at h_;simp only [List.flatMap_cons,List.flatMap_nil,As.conE,show (As.sl [(9,10)]) 9=some 10 from rfl,show (As.sl [(9,10)]) 10=none from rfl,hx_ab7,hx_sb9,Option.isSome_some,Option.getD_some,cond_true,cond_false,List.cons_append,List.nil_append,List.append_nil] at h_;exact h_
 refine any1 (i:=11) (by kernel_rfl) rfl rfl (aH ha rfl rfl fun a ha=>?_);refine any0 (by kernel_rfl) ?_;refine aa (wp_seq ?_);have hS_:=hS;refine As.c_draw_head (ini:=(As.il [])) (sup:=(As.sl [(9,10)])) (als:= [9,10]) (s0:=⟨H11,fun _=>none⟩) (L:=((eO ab7 46 (tA (((readS (HS.S h) y_).1)) A5 c5))::(eO b3 34 (wA y_))::(eO b1 34 (wA v_))::(eO q 70 (hA p Aw ws.length cw Ab bs.length cb))::ew::eb::Lh)) (N:=45) (E:= [(0,(pB q)),(4,(pB b1)),(7,(pB ab7)),(8,(iV ((readS (HS.S h) y_).2)))]) 11 [FcV (pB q),FcV (pB q),FcV (pB q),FcV (pB p),FcV (.agg (wA v_)),fun q_ v=>(fun H v=> ∃ A c,v=(.tuple #[(tv (((readS (HS.S h) v_).1)) A c),(iV ((readS (HS.S h) v_).2))])∧RowT H A c ((readS (HS.S h) v_).1).l) q_.H v,fun q_ v=>(fun H v=> ∃ A c,v=(.tuple #[(tv (((readS (HS.S h) v_).1)) A c),(iV ((readS (HS.S h) v_).2))])∧RowT H A c ((readS (HS.S h) v_).1).l) q_.H v,fun q_ v=>(fun H v=> ∃ A c,v=(tv (((readS (HS.S h) v_).1)) A c)∧RowT H A c ((readS (HS.S h) v_).1).l) q_.H v,FcV (iV ((readS (HS.S h) v_).2)),fun s v=> ∃ b,s.ax 9=some [(some b,(.cells aZ 46 (0,0)))]∧v=.pointer (some ⟨b,0,none⟩),fun s _=> ∃(b: Nat) (A: Option Addr) (c: Nat),s.ax 9=some [(some b,(.cells aZ 46 (0,0)))]∧s.ax 10=some [(eO b 46 (tA (((readS (HS.S h) v_).1)) A c))]∧RowT s.H A c ((readS (HS.S h) v_).1).l] mixed rfl rfl rfl (As.M1 (As.M1 (As.M1 (As.M1 (As.M1 (As.Monos.cons (fun _ _ v hl hq_=>(fun _ _ _ hl ⟨A,c,e,hr⟩=>⟨A,c,e,hr.mono hl⟩: ∀(H H': PHeap) (v: Value),Le H H'→(fun H v=> ∃ A c,v=(.tuple #[(tv (((readS (HS.S h) v_).1)) A c),(iV ((readS (HS.S h) v_).2))])∧RowT H A c ((readS (HS.S h) v_).1).l) H v→(fun H v=> ∃ A c,v=(.tuple #[(tv (((readS (HS.S h) v_).1)) A c),(iV ((readS (HS.S h) v_).2))])∧RowT H A c ((readS (HS.S h) v_).1).l) H' v) _ _ _ hl.le hq_) (As.Monos.cons (fun _ _ v hl hq_=>(fun _ _ _ hl ⟨A,c,e,hr⟩=>⟨A,c,e,hr.mono hl⟩: ∀(H H': PHeap) (v: Value),Le H H'→(fun H v=> ∃ A c,v=(.tuple #[(tv (((readS (HS.S h) v_).1)) A c),(iV ((readS (HS.S h) v_).2))])∧RowT H A c ((readS (HS.S h) v_).1).l) H v→(fun H v=> ∃ A c,v=(.tuple #[(tv (((readS (HS.S h) v_).1)) A c),(iV ((readS (HS.S h) v_).2))])∧RowT H A c ((readS (HS.S h) v_).1).l) H' v) _ _ _ hl.le hq_) (As.Monos.cons (fun _ _ v hl hq_=>(fun _ _ _ hl ⟨A,c,e,hr⟩=>⟨A,c,e,hr.mono hl⟩: ∀(H H': PHeap) (v: Value),Le H H'→(fun H v=> ∃ A c,v=(tv (((readS (HS.S h) v_).1)) A c)∧RowT H A c ((readS (HS.S h) v_).1).l) H v→(fun H v=> ∃ A c,v=(tv (((readS (HS.S h) v_).1)) A c)∧RowT H A c ((readS (HS.S h) v_).1).l) H' v) _ _ _ hl.le hq_) (As.M1 (As.Monos.cons (fun _ _ _ hl ⟨b,h,e⟩=>⟨b,hl.get h,e⟩) (As.Monos.cons (fun _ _ _ hl ⟨b,A,c,h1,h2,hr⟩=>⟨b,A,c,hl.get h1,hl.get h2,hr.mono hl.le⟩) (As.Monos.nil)))))))))))) (fun _=>rfl) hS (ha.pk rfl) (As.QuietsI.c4 ?_ ?_ ?_ ?_ (As.QuietsI.c4 ?_ ?_ ?_ ?_ (As.QuietsI.c2 ?_ ?_ (As.QuietsI.cons ?_ (As.QuietsI.nil))))) (fun f_ a w s_ hls hS ha hdr_=>?_)
 ·refine As.Qx rfl fun a w H_ ax_ hle hax_ hS ha hd hls=>?_;have hSf:=hS;exact ak ha rfl rfl fun a ha=>As.ql ha hSf
 ·refine As.Qx1 0 rfl fun a w H_ ax_ hle hax_ hS ha hd hls=>?_;have hSf:=hS;exact aw ha rfl rfl fun a ha=>As.ql ha hSf
 ·refine As.Qx1 1 rfl fun a w H_ ax_ hle hax_ hS ha hd hls=>?_;have hSf:=hS;exact ac (f:=0) (o2:=0) T70 T24 rfl rfl rfl rfl ha rfl rfl fun a ha=>As.ql ha hSf
 ·refine As.Qx1 2 rfl fun a w H_ ax_ hle hax_ hS ha hd hls=>?_;have hSf:=hS;have hS:=Step.dropN _ _ hS;exact af (v:=(pB p)) T24 rfl ha rfl (hS.blkL 3 rfl) rfl rfl fun a ha=>As.ql ha hSf
 ·refine As.Qx rfl fun a w H_ ax_ hle hax_ hS ha hd hls=>?_;have hSf:=hS;have hS:=Step.dropN _ _ hS;exact al (vs:=(wL v_)) T34 rfl ha rfl (hS.blkL 2 rfl) rfl (ag rfl) rfl fun a ha=>As.ql ha hSf
 ·refine As.Qx1 3 rfl fun a w H_ ax_ hle hax_ hS ha hd hls=>?_;obtain⟨_,ha,rfl⟩:=hd.g ha 4 rfl;have hSf:=hS;have hSr:=Step.dropN _ _ hS;have hS:=Step.perm hS (List.Perm.of_eq (List.append_assoc (As.aents (As.il []) (As.sl [(9,10)]) [9,10] ax_) [(eO ab7 46 (tA (((readS (HS.S h) y_).1)) A5 c5)),(eO b3 34 (wA y_)),(eO b1 34 (wA v_)),(eO q 70 (hA p Aw ws.length cw Ab bs.length cb)),ew,eb] Lh).symm);have hk13:=fH (hS.tail ((As.aents (As.il []) (As.sl [(9,10)]) [9,10] ax_)++ [(eO ab7 46 (tA (((readS (HS.S h) y_).1)) A5 c5)),(eO b3 34 (wA y_)),(eO b1 34 (wA v_)),(eO q 70 (hA p Aw ws.length cw Ab bs.length cb)),ew,eb])) hK (x:=v_);refine id (Co func20 ha rfl (hk13) ?_);rintro e w ⟨H12,A12,c12,rfl,hr12,hc12⟩;refine⟨_,rfl,fun a ha=>?_⟩;have hS:=hS.frameR ((As.aents (As.il []) (As.sl [(9,10)]) [9,10] ax_)++ [(eO ab7 46 (tA (((readS (HS.S h) y_).1)) A5 c5)),(eO b3 34 (wA y_)),(eO b1 34 (wA v_)),(eO q 70 (hA p Aw ws.length cw Ab bs.length cb)),ew,eb]) hc12;have hS:=Step.perm hS (List.Perm.of_eq (List.append_assoc (As.aents (As.il []) (As.sl [(9,10)]) [9,10] ax_) [(eO ab7 46 (tA (((readS (HS.S h) y_).1)) A5 c5)),(eO b3 34 (wA y_)),(eO b1 34 (wA v_)),(eO q 70 (hA p Aw ws.length cw Ab bs.length cb)),ew,eb] Lh));exact As.qdone (s:=⟨H_,ax_⟩) hc12.le ha hS ⟨_,_,rfl,hr12⟩
 ·refine As.Qx rfl fun a w H_ ax_ hle hax_ hS ha hd hls=>?_;obtain⟨_,ha,A12,c12,rfl,hr12⟩:=hd.g ha 5 rfl;have hSf:=hS;refine id (ak ha rfl rfl fun a ha=>?_);exact As.qdone (s:=⟨H_,ax_⟩) (Le.refl _) ha hSf ⟨_,_,rfl,hr12⟩
 ·refine As.Qx rfl fun a w H_ ax_ hle hax_ hS ha hd hls=>?_;obtain⟨_,ha,A12,c12,rfl,hr12⟩:=hd.g ha 6 rfl;have hSf:=hS;refine id (ad (v:=(tv (((readS (HS.S h) v_).1)) A12 c12)) ha rfl rfl rfl fun a ha=>?_);exact As.qdone (s:=⟨H_,ax_⟩) (Le.refl _) ha hSf ⟨_,_,rfl,hr12⟩
 ·refine As.Qx rfl fun a w H_ ax_ hle hax_ hS ha hd hls=>?_;obtain⟨_,ha,A12,c12,rfl,hr12⟩:=hd.g ha 6 rfl;have hSf:=hS;exact ad (v:=(iV ((readS (HS.S h) v_).2))) ha rfl rfl rfl fun a ha=>As.ql ha hSf
 ·refine As.Qx rfl fun a w H_ ax_ hle hax_ hS ha hd hls=>?_;have hS: Step w0 H ([(eO q 70 #[.pointer (some ⟨p,0,none⟩),.slice Aw ws.length cw,.slice Ab bs.length cb,.bool true]),ew,eb]++Lh) w H_ ((As.aents (As.il []) (As.sl [(9,10)]) [] ax_++As.aents (As.il []) (As.sl [(9,10)]) [10] ax_++((eO ab7 46 (tA (((readS (HS.S h) y_).1)) A5 c5))::(eO b3 34 (wA y_))::(eO b1 34 (wA v_))::(eO q 70 (hA p Aw ws.length cw Ab bs.length cb))::ew::eb::Lh))):=As.opn (s:=⟨H_,ax_⟩) [] [9] [10] [] rfl (As.con0 hax_ rfl) hS;refine aE (cs:=aZ) T46 hS ha rfl rfl fun ab14 a w hS ha=>?_;exact As.qown (i:=9) (dst:=some 9) (s:=⟨H_,ax_⟩) (E:= [(some ab14,(.cells aZ 46 (0,0)))]) [] [9] [10] rfl rfl hax_ (Le.refl _) ha.dfr (As.has_at ha) hS As.con1 ⟨ab14,rfl,rfl⟩
 ·refine As.Qx rfl fun a w H_ ax_ hle hax_ hS ha hd hls=>?_;obtain⟨_,ha,ab14,hx_ab14,rfl⟩:=hd.g ha 9 rfl;have hx_ab14: ax_ 9=some [(some ab14,(.cells aZ 46 (0,0)))]:=hx_ab14;obtain⟨_,ha,A12,c12,rfl,hr12⟩:=hd.g ha 7 rfl;have hS: Step w0 H ([(eO q 70 #[.pointer (some ⟨p,0,none⟩),.slice Aw ws.length cw,.slice Ab bs.length cb,.bool true]),ew,eb]++Lh) w H_ ((some ab14,(.cells aZ 46 (0,0)))::(As.aents (As.il []) (As.sl [(9,10)]) [] ax_++As.aents (As.il []) (As.sl [(9,10)]) [] ax_++((eO ab7 46 (tA (((readS (HS.S h) y_).1)) A5 c5))::(eO b3 34 (wA y_))::(eO b1 34 (wA v_))::(eO q 70 (hA p Aw ws.length cw Ab bs.length cb))::ew::eb::Lh))):=As.opn (s:=⟨H_,ax_⟩) [] [9,10] [] [(some ab14,(.cells aZ 46 (0,0)))] rfl (As.con2 rfl rfl rfl hx_ab14 hax_) hS;refine id (aj (cs':=(tA (((readS (HS.S h) v_).1)) A12 c12)) T46 hS (i:=0) rfl ha rfl rfl rfl rfl rfl rfl fun a w hS ha=>?_);exact As.qown (i:=10) (dst:=none) (s:=⟨H_,ax_⟩) (E:= [(eO ab14 46 (tA (((readS (HS.S h) v_).1)) A12 c12))]) [] [9,10] [] rfl rfl hax_ (Le.refl _) ha.dfr (v:=undef) (fun _ h=>by cases h) hS (.inl (As.con2' rfl rfl)) ⟨ab14,A12,c12,hx_ab14,rfl,hr12⟩
 obtain⟨H18,ax_⟩:=s_;have hle18: Le H11 H18:=hls.le;dsimp only at hdr_ hS;have hr5:=hr5.mono hle18;obtain⟨_,ha,rfl⟩:=As.Dd ha hdr_ 8 rfl;obtain⟨_,ha,ab14,hx_ab14,rfl⟩:=As.Dd ha hdr_ 9 rfl;have hx_ab14: ax_ 9=some [(some ab14,(.cells aZ 46 (0,0)))]:=hx_ab14;obtain⟨_,hv_,sb16,A12,c12,hq_sb16,hx_sb16,hr12⟩:=hdr_ 10 _ _ rfl rfl;have hx_sb16: ax_ 10=some [(eO sb16 46 (tA (((readS (HS.S h) v_).1)) A12 c12))]:=hx_sb16;obtain rfl: ab14=sb16:=by have h_:=(hx_ab14).symm.trans hq_sb16;simpa using h_
 have hS: Step w0 H ([(eO q 70 #[.pointer (some ⟨p,0,none⟩),.slice Aw ws.length cw,.slice Ab bs.length cb,.bool true]),ew,eb]++Lh) w H18 ((eO ab14 46 (tA (((readS (HS.S h) v_).1)) A12 c12))::(eO ab7 46 (tA (((readS (HS.S h) y_).1)) A5 c5))::(eO b3 34 (wA y_))::(eO b1 34 (wA v_))::(eO q 70 (hA p Aw ws.length cw Ab bs.length cb))::ew::eb::Lh):=by
  have h_:=hS;unfold As.aents at h_;simp only [List.flatMap_cons,List.flatMap_nil,As.conE,show (As.sl [(9,10)]) 9=some 10 from rfl,show (As.sl [(9,10)]) 10=none from rfl,hx_ab14,hx_sb16,Option.isSome_some,Option.getD_some,cond_true,cond_false,List.cons_append,List.nil_append,List.append_nil] at h_;exact h_
 refine any1 (i:=11) (by kernel_rfl) rfl rfl (aH ha rfl rfl fun a ha=>?_);refine any0 (by kernel_rfl) ?_;refine aa (wp_seq (wp_seq (ab (Lm rfl ha fun a ha=>?_))));refine lin rfl (bG (i:=((readS (HS.S h) y_).2)) (j:=0) ha rfl rfl rfl fun a ha=>?_);refine Lm rfl ha fun a ha=>?_;refine aR (t:=32) ha rfl (fun h19 ha=>?_) (fun h19 ha=>?_)
 ·refine Lf rfl ha rfl rfl fun a ha=>?_;refine Lf rfl ha rfl rfl fun a ha=>?_;refine lin rfl (aq ha rfl rfl rfl fun a ha=>?_);refine Lm rfl ha fun a ha=>?_;refine Lf rfl ha rfl rfl fun a ha=>?_;refine Lf rfl ha rfl rfl fun a ha=>?_;refine Lf rfl ha rfl rfl fun a ha=>?_;refine lin rfl (aq ha rfl rfl rfl fun a ha=>?_);refine wpList_nil (aa (ao ha rfl (wp_seq (ab (Ls rfl ha fun a ha=>?_)))));refine wpList_nil (aa (wp_ret (ah (ret1 rfl ha rfl ?_))));have hS:=hS.drop;have hS:=hS.drop;have hS:=hS.drop;have hS:=hS.drop;rw [show insP h.S v_ y_=true from by unfold insP;rw [if_pos (by omega)]];exact⟨_,rfl,hS⟩
 ·refine ae rfl ha rfl rfl rfl (ak ha rfl rfl fun a ha=>?_);refine ae rfl ha rfl rfl rfl (bG (i:=((readS (HS.S h) v_).2)) (j:=0) ha rfl rfl rfl fun a ha=>?_);refine lin rfl (am ha rfl rfl rfl fun a ha=>?_);refine Lm rfl ha fun a ha=>?_;refine aR (t:=36) ha rfl (fun h20 ha=>?_) (fun h20 ha=>?_)
  ·refine Lf rfl ha rfl rfl fun a ha=>?_;refine Lf rfl ha rfl rfl fun a ha=>?_;refine Lf rfl ha rfl rfl fun a ha=>?_;refine lin rfl (aq ha rfl rfl rfl fun a ha=>?_);refine wpList_nil (aa (ao ha rfl (wp_seq (ab (Ls rfl ha fun a ha=>?_)))));refine wpList_nil (aa (wp_ret (ah (ret1 rfl ha rfl ?_))));have hS:=hS.drop;have hS:=hS.drop;have hS:=hS.drop;have hS:=hS.drop;rw [show insP h.S v_ y_=true from by unfold insP;rw [if_pos (by omega)]];exact⟨_,rfl,hS⟩
  ·refine ae rfl ha rfl rfl rfl (ac (f:=0) (o2:=0) T46 T3 rfl rfl rfl rfl ha rfl rfl fun a ha=>?_);refine ae rfl ha rfl rfl rfl (af (v:=(iV ((((readS (HS.S h) v_).1)).kind))) T3 rfl ha rfl (hS.blkL 0 rfl) rfl rfl fun a ha=>?_);refine ae rfl ha rfl rfl rfl (bG (i:=((((readS (HS.S h) v_).1)).kind)) (j:=1) ha rfl rfl rfl fun a ha=>?_);refine lin rfl (am ha rfl rfl rfl fun a ha=>?_);refine wpList_nil (aa (aR (t:=40) ha rfl (fun h21 ha=>?_) (fun h21 ha=>?_)))
   ·refine ao ha rfl (wp_seq (ab (Ls rfl ha fun a ha=>?_)));refine wpList_nil (aa (wp_ret (ah (ret1 rfl ha rfl ?_))));have hS:=hS.drop;have hS:=hS.drop;have hS:=hS.drop;have hS:=hS.drop;rw [show insP h.S v_ y_=true from by unfold insP;rw [if_pos (by omega)]];exact⟨_,rfl,hS⟩
   ·refine ai ha rfl (wp_skip (aa (wp_seq (ab (lin rfl (aE (cs:= #[.nilFunc]) T53 hS ha rfl rfl fun b22 a w hS ha=>?_))))));refine wpList_nil (aa (wp_seq (ab (lin rfl (cv (fs:= #[]) (cs:= #[(pB ab14),(pB b22)]) ha (ha.evs (xs:= []) rfl) (ha.evs rfl) rfl fun a ha=>?_)))));refine lin rfl (aj (cs':= #[(.func (.func 105) #[] #[(pB ab14),(pB b22)])]) T53 hS (i:=0) rfl ha rfl rfl rfl rfl rfl rfl fun a w hS ha=>?_);refine wpList_nil (aa (wp_seq (ab (lin rfl (af (v:=(.func (.func 105) #[] #[(pB ab14),(pB b22)])) T53 rfl ha rfl (hS.blkL 0 rfl) rfl rfl fun a ha=>?_)))));refine lin rfl (al (vs:=(tL (((readS (HS.S h) y_).1)) A5 c5)) T46 rfl ha rfl (hS.blkL 2 rfl) rfl (ag rfl) rfl fun a ha=>?_);have hS:=hS.front 7 rfl;have hS:=hS.front 7 rfl;have hS:=hS.front 7 rfl;have hS:=hS.front 7 rfl;have hS:=hS.front 7 rfl;have hS:=hS.front 7 rfl;have hS:=hS.front 6 rfl;have hS:=hS.front 7 rfl;have hk25:=c_visit (ba:=ab14) (bv:=b22) (u:=(readS h.S v_).1) ((readS (HS.S h) y_).1) _ _ _ _ hr5 (Inv.head [(eO ab14 46 (tA (((readS (HS.S h) v_).1)) A12 c12)),(eO b22 53 #[(.func (.func 105) #[] #[(pB ab14),(pB b22)])])] (B:=((eO ab7 46 (tA (((readS (HS.S h) y_).1)) A5 c5))::(eO b3 34 (wA y_))::(eO b1 34 (wA v_))::(eO q 70 (hA p Aw ws.length cw Ab bs.length cb))::ew::eb::Lh)) hS.inv);refine lin rfl (bl func105 rfl rfl (ha.evs rfl) ha rfl rfl (hk25) ?_);rintro e w ⟨rfl,hc24⟩;refine⟨_,rfl,fun a ha=>?_⟩;have hS:=Step.frame (Lc:= [(eO ab14 46 (tA (((readS (HS.S h) v_).1)) A12 c12)),(eO b22 53 #[(.func (.func 105) #[] #[(pB ab14),(pB b22)])])]) (R:=((eO ab7 46 (tA (((readS (HS.S h) y_).1)) A5 c5))::(eO b3 34 (wA y_))::(eO b1 34 (wA v_))::(eO q 70 (hA p Aw ws.length cw Ab bs.length cb))::ew::eb::Lh)) hS hc24;refine Ls rfl ha fun a ha=>?_;refine wpList_nil (aa (wp_ret (ret1 rfl ha rfl ?_)));have hS:=hS.drop;have hS:=hS.drop;have hS:=hS.drop;have hS:=hS.drop;have hS:=hS.drop;rw [show insP h.S v_ y_=occV (readS h.S v_).1.n (readS h.S y_).1 from by unfold insP;rw [if_neg (by omega)]];exact⟨_,rfl,hS⟩
end Go.Vk.Try
namespace Go.Vk.Try
open Go.RowKit
end Go.Vk.Try
