/- Part 5 of the proof of heapSwept_holds. Conditions: none. -/
import Derived.Test.YthblpljakpecdaaGreatC4
set_option linter.unusedVariables false
set_option linter.unusedSimpArgs false
set_option linter.unusedSectionVars false
set_option maxRecDepth 100000
open Go.Proofs.Tryz
namespace Go.Vk
theorem markL_get: ∀(js: List Nat) (l: List Bool) (j: Nat),j < l.length->((js.foldl (fun l j=>l.set j true) l).getD j false=true↔j ∈ js\/l.getD j false=true)
 | [],l,j,_=>by simp
 | i::js,l,j,hj=>by
  rw [List.foldl_cons,markL_get js _ j (by rw [List.length_set];exact hj)];have h1:(l.set i true).getD j false=if i=j then true else l.getD j false:=by
   rw [List.getD_eq_getElem?_getD,List.getD_eq_getElem?_getD,List.getElem?_set]
   by_cases e: i=j
   ·rw [if_pos e,if_pos j0,if_pos e];rfl
   ·rw [if_neg e,if_neg e]
  rw [h1]
  by_cases e: i=j
  ·subst e;simp
  ·rw [if_neg e,List.mem_cons]
   constructor
   ·rintro(h | h)
    ·exact .inl (.inr h)
    ·exact .inr h
   ·rintro((h | h) | h)
    ·exact absurd h.symm e
    ·exact .inl h
    ·exact .inr h
theorem eN {n: Nat} {js: List Nat} {j: Nat} (hj: j < n):(markL n js).getD j false=true↔j ∈ js:=by
 unfold markL;rw [markL_get js _ j (by simpa using hj),getD_rep];simp
theorem markL_take {n k j: Nat} {js: List Nat} (h: js[k]? =some j): markL n (js.take (k+1))=(markL n (js.take k)).set j true:=by
 unfold markL;rw [List.take_add_one,h,List.foldl_append];rfl
def sweepK (L: List Bool) (h: HS): Nat->HS
 | 0=>h
 | k+1=>if L.getD k false then sweepK L h k else (sweepK L h k).clear k
def HS.sweep (h: HS) (roots: List Wd): HS ×(Int × Int):=
 if allS h.S roots=false then (h,(0,211)) else
 let g:=sweepK (markL h.S.length (blocksS h.S roots)) h h.S.length
 (g,(h.u - g.u,0))
theorem clear_get {h: HS} {a j: Nat}:(h.clear a).S[j]? =if j=a/\j < h.S.length then some none else h.S[j]?:=by
 unfold HS.clear
 split
 ·rename_i b hb
  show (h.S.set a none)[j]? =_
  rw [List.getElem?_set]
  by_cases e: a=j
  ·subst e;rw [if_pos J]
   by_cases h1: a < h.S.length
   ·rw [if_pos h1,if_pos ⟨rfl,h1⟩]
   ·rw [if_neg h1,if_neg (fun h=>h1 h.2),List.getElem?_eq_none j0]
  ·rw [if_neg e,if_neg (fun h=>e h.1.symm)]
 ·rename_i hb
  by_cases e: j=a/\j < h.S.length
  ·obtain⟨rfl,h1⟩:=e;rw [if_pos ⟨rfl,h1⟩];rw [List.getD_eq_getElem?_getD,List.getElem?_eq_getElem h1] at hb;rw [List.getElem?_eq_getElem h1];exact congrArg some hb
  ·rw [if_neg e]
theorem clear_len (h: HS) (a: Nat):(h.clear a).S.length=h.S.length:=by
 unfold HS.clear
 split
 ·exact List.length_set
 ·rfl
theorem clear_u (h: HS) (a: Nat):(h.clear a).u<=h.u:=by
 unfold HS.clear
 split
 ·rename_i b _
  show h.u - (b.size: Int)<=h.u
  omega
 ·exact Int.le_refl _
theorem clear_none {h: HS} {a: Nat} (hn: ∀ b,h.S[a]?≠some (some b)): h.clear a=h:=by
 unfold HS.clear
 split
 ·rename_i b hb
  rw [List.getD_eq_getElem?_getD] at hb
  cases hg: h.S[a]? with
  | none=>rw [hg] at hb;cases hb
  | some o=>rw [hg] at hb;exact absurd (hg.trans (congrArg some hb)) (hn b)
 ·rfl
section
variable {L: List Bool} {h: HS}
theorem cF: ∀ k,(sweepK L h k).S.length=h.S.length
 | 0=>rfl
 | k+1=>by
  rw [sweepK]
  split
  ·exact cF k
  ·rw [clear_len,cF k]
theorem cC (hO: h.Ok): ∀ k,(sweepK L h k).Ok
 | 0=>hO
 | k+1=>by
  rw [sweepK]
  split
  ·exact cC hO k
  ·exact(cC hO k).clear k
theorem fO: ∀ k,(sweepK L h k).u<=h.u
 | 0=>Int.le_refl _
 | k+1=>by
  rw [sweepK]
  split
  ·exact fO k
  ·exact Int.le_trans (clear_u _ _) (fO k)
theorem dj: ∀(k j: Nat),(sweepK L h k).S[j]? =if j < k/\j < h.S.length/\L.getD j false=false then some none else h.S[j]?
 | 0,j=>by rw [if_neg j0];rfl
 | k+1,j=>by
  rw [sweepK]
  split
  ·rename_i hL
   rw [dj k j]
   by_cases e: j=k
   ·subst e;rw [if_neg j0,if_neg (fun h=>by rw [h.2.2] at hL;cases hL)]
   ·by_cases h1: j < k/\j < h.S.length/\L.getD j false=false
    ·rw [if_pos h1,if_pos ⟨by omega,h1.2⟩]
    ·rw [if_neg h1,if_neg (fun h2=>h1 ⟨by omega,h2.2⟩)]
  ·rename_i hL
   rw [clear_get,dj k j,cF]
   by_cases e: j=k
   ·subst e
    by_cases h1: j < h.S.length
    ·rw [if_pos ⟨rfl,h1⟩,if_pos ⟨by omega,h1,by simpa using hL⟩]
    ·rw [if_neg (fun h=>h1 h.2),if_neg j0,if_neg (fun h=>h1 h.2.1)]
   ·rw [if_neg (fun h=>e h.1)]
    by_cases h1: j < k/\j < h.S.length/\L.getD j false=false
    ·rw [if_pos h1,if_pos ⟨by omega,h1.2⟩]
    ·rw [if_neg h1,if_neg (fun h2=>h1 ⟨by omega,h2.2⟩)]
theorem sweepK_same: ∀ k,(∀ j b,h.S[j]? =some (some b)->L.getD j false=true)->sweepK L h k=h
 | 0,_=>rfl
 | k+1,hn=>by
  rw [sweepK,sweepK_same k hn]
  split
  ·rfl
  ·rename_i hL
   exact clear_none fun b hb=>hL (hn k b hb)
end
theorem atR {l: List (Option PB)} {j: Nat} {x: Option PB} (h: l[j]? =some x): j < l.length:=(List.getElem?_eq_some_iff.1 h).1
section
variable {h: HS} {roots: List Wd}
theorem bZ (ha: allS h.S roots=true):(h.sweep roots).1=sweepK (markL h.S.length (blocksS h.S roots)) h h.S.length/\(h.sweep roots).2=(h.u - (h.sweep roots).1.u,0):=by
 unfold HS.sweep;rw [if_neg (by rw [ha];simp)];exact⟨rfl,rfl⟩
theorem sweep_rst (ha: allS h.S roots=true): Rst h.S (h.sweep roots).1.S (blocksS h.S roots):=by
 rw [(bZ ha).1];refine⟨cF _,fun j hj=>?_,fun j b hb=>?_⟩
 ·obtain⟨b,hb⟩:=cH hj;rw [dj,if_neg (fun h1=>by rw [(eN h1.2.1).2 hj] at h1;cases h1.2.2)]
 ·have hlt: j < h.S.length:=by have:=atR hb;rwa [cF] at this
  rw [dj] at hb
  split at hb
  ·cases hb
  ·rename_i h1
   refine⟨(eN hlt).1 ?_,hb⟩
   cases hq:(markL h.S.length (blocksS h.S roots)).getD j false with
   | true=>rfl
   | false=>exact absurd ⟨hlt,hlt,hq⟩ h1
theorem sweep_keeps (ha: allS h.S roots=true):(∀ w ∈ roots,readS (h.sweep roots).1.S w=readS h.S w)/\allS (h.sweep roots).1.S roots=true/\blocksS (h.sweep roots).1.S roots=blocksS h.S roots/\(h.sweep roots).1.sweep roots=((h.sweep roots).1,(0,0)):=by
 obtain⟨h1,h2⟩:=blocks_closed h.S roots;have hr:=sweep_rst ha;have h3: allS (h.sweep roots).1.S roots=true:=List.all_eq_true.2 fun w hw=>by rw [hr.word (h2 w hw)];exact List.all_eq_true.1 ha w hw
 have h4:=hr.blocks h1 h2;refine⟨fun w hw=>hr.read h1 (h2 w hw),h3,h4,?_⟩;have h5:((h.sweep roots).1.sweep roots).1=(h.sweep roots).1:=by
  rw [(bZ h3).1];refine sweepK_same _ fun j b hj=>(eN (atR hj)).2 ?_;rw [h4];exact(hr.off _ _ hj).1
 refine Prod.ext h5 ?_;rw [(bZ h3).2,h5,Int.sub_self]
theorem sweep_nil (hO: h.Ok):(h.sweep []).1.u=0/\(h.sweep []).2=(h.u,0):=by
 have ha: allS h.S []=true:=rfl;have hr:=sweep_rst ha;have hb: blocksS h.S []= []:=rfl;have hO2:(h.sweep []).1.Ok:=by rw [(bZ ha).1];exact cC hO _
 have h0:(h.sweep []).1.u=0:=by
  rw [hO2.cnt];have:(h.sweep []).1.tk.count true=0:=by
   rw [List.count_eq_zero];intro hm;obtain⟨k,hk⟩:=List.getElem?_of_mem hm;obtain⟨j,b,hj,_⟩:=(hO2.tkn k).1 hk;have:=(hr.off _ _ hj).1;rw [hb] at this
   cases this
  omega
 exact⟨h0,by rw [(bZ ha).2,h0,Int.sub_zero]⟩
theorem sweep_ok (hO: h.Ok) (ha: allS h.S roots=true):(h.sweep roots).1.Ok:=by rw [(bZ ha).1];exact cC hO _
theorem sweep_u (ha: allS h.S roots=true):(h.sweep roots).1.u<=h.u:=by rw [(bZ ha).1];exact fO _
end
end Go.Vk
namespace Go.Vk
open Go.RowKit
def HPA (Ab: Option Addr) (cb nn: Nat) (p: Nat) (bs: BS) (tk: List Bool) (u: Int) (L: List Ent): Prop:=
 ∃(At: Option Addr) (ct: Nat) (eb et: Ent) (fs: List (Ent × Ent × Ent)),
  L=(some p,.cells #[.slice Ab nn cb,.slice At nn ct,.int .i64 u] 103 (0,0))::eb::et::fl3 fs/\bs.length=nn/\tk.length=nn/\
  Row (.slice Ab nn cb) eb 105 1 nn (gfl bkc bs)/\Row (.slice At nn ct) et 4 1 nn (bls tk)/\nn<=65536/\Fs bs fs
section
variable {Ab: Option Addr} {cb nn p: Nat} {bs: BS} {tk: List Bool} {u: Int} {L: List Ent}
theorem HPA.open_ (h: HPA Ab cb nn p bs tk u L): ∃(At: Option Addr) (ct: Nat) (eb et: Ent) (fs: List (Ent × Ent × Ent)),
  L=(some p,.cells #[.slice Ab nn cb,.slice At nn ct,.int .i64 u] 103 (0,0))::eb::et::fl3 fs/\bs.length=nn/\tk.length=nn/\
  Row (.slice Ab nn cb) eb 105 1 nn (gfl bkc bs)/\Row (.slice At nn ct) et 4 1 nn (bls tk)/\nn<=65536/\Fs bs fs:=h
theorem HPA.mk' {ct: Nat} {At: Option Addr} {eb et: Ent} {fs: List (Ent × Ent × Ent)} (hb: bs.length=nn) (ht: tk.length=nn) (h1: Row (.slice Ab nn cb) eb 105 1 nn (gfl bkc bs)) (h2: Row (.slice At nn ct) et 4 1 nn (bls tk)) (hn: nn<=65536) (hF: Fs bs fs) :
  HPA Ab cb nn p bs tk u ((some p,.cells #[.slice Ab nn cb,.slice At nn ct,.int .i64 u] 103 (0,0))::eb::et::fl3 fs):=⟨At,ct,eb,et,fs,rfl,hb,ht,h1,h2,hn,hF⟩
theorem HPA.len (h: HPA Ab cb nn p bs tk u L): bs.length=nn:=by
 obtain⟨At,ct,eb,et,fs,_,hb,_⟩:=h;exact hb
theorem HPA.hp (h: HPA Ab cb nn p bs tk u L): HP p bs tk u L:=by
 obtain⟨At,ct,eb,et,fs,rfl,hb,ht,h1,h2,hn,hF⟩:=h;exact HP.mk' hb ht h1 h2 hn hF
theorem HP.hpa (h: HP p bs tk u L): ∃(Ab: Option Addr) (cb: Nat),HPA Ab cb bs.length p bs tk u L:=by
 obtain⟨Ab,cb,At,ct,eb,et,fs,hE,hb,ht,h1,h2,hn,hF⟩:=h.open_;exact⟨Ab,cb,At,ct,eb,et,fs,hE,hb,ht,h1,h2,hn,hF⟩
end
section
variable {M: List Bool} {h: HS} {bs: BS} {k: Nat}
theorem swp_none (hb: er bs=(sweepK M h k).S) (hx: bs[k]? =some none): er bs=(sweepK M h (k+1)).S/\(sweepK M h (k+1)).tk=(sweepK M h k).tk/\(sweepK M h (k+1)).u=(sweepK M h k).u:=by
 rw [sweepK]
 split
 ·exact⟨hb,rfl,rfl⟩
 ·rw [clear_none fun b h1=>by rw [<- hb,dR,hx] at h1;cases h1];exact⟨hb,rfl,rfl⟩
theorem swp_on (hm: M.getD k false=true): sweepK M h (k+1)=sweepK M h k:=by
 rw [sweepK,if_pos hm]
theorem swp_off {b: BK} (hb: er bs=(sweepK M h k).S) (hx: bs[k]? =some (some b)) (hm: M.getD k false=false): er (bs.set k none)=(sweepK M h (k+1)).S/\fillP (sweepK M h k).tk k b.2.size false=(sweepK M h (k+1)).tk/\(sweepK M h k).u - ((b.2.size: Nat): Int)=(sweepK M h (k+1)).u:=by
 rw [sweepK,if_neg (by rw [hm];simp)];have h1:(sweepK M h k).S.getD k none=some b.2:=by rw [<- hb,f8,List.getD_eq_getElem?_getD,hx];rfl
 unfold HS.clear;rw [h1];exact⟨by rw [dS,hb];rfl,rfl,rfl⟩
end
section
variable {P: Program} {K: Act->World->Prop} {Q: Exit->Act->World->Prop} {D: List Deferred} {a: Act} {w: World} {N: Nat} {m: Env} {d: Nat} {ty: TypeId} {pos: String} {aft: Array Edge} {g: Option (Nat × Bool)}
theorem o_ifneB {x: Operand} {t ty': TypeId} {ms: Array (String × TypeId)} {b: BK} (ht: P.underlying t=some (.interface ms)) (ha: Has D a N m) (hx: ev m x=some (bkv (some b))) (hd: Nat.blt d N=true) (k: ∀ a',Has D a' N ((d,.bool true)::m)->K a' w) :
  Oper.wp P ⟨some d,.binOp .neq t x (.const .nilIface) ty',ty,pos,aft,g⟩ a w K Q:=by
 obtain⟨q,_ | _ | _⟩:=b <;> exact ge ht ha hx hd k
end
theorem bls_getD {l: List Bool} {k: Nat} {x: Bool} (h: l[k]? =some x): l.getD k false=x:=by rw [List.getD_eq_getElem?_getD,h];rfl
end Go.Vk
namespace Go.Vk
open Go.RowKit Go.Sort
def srtI (xs: List Int): List Int:=xs.mergeSort fun x y=>decide (x<=y)
theorem cV (xs: List Int):(srtI xs).length=xs.length:=List.length_mergeSort _
theorem srtI_nil: srtI []= []:=by unfold srtI;simp
theorem grown_put {α: Type} [Inhabited α] (enc: α->Value) (w: World) (n b off: Nat) (d: Array α) (os: Array Obj): w.grownBy (grow (putRow enc (Go.Sort.ahead w n) b off d) os) (some b):=by
 refine⟨rfl,rfl,rfl,?_,fun i hi hne=>?_⟩
 ·show w.heap.size<=((w.heap.modify b _)++os).size
  simp
 ·show ((w.heap.modify b _)++os)[i]? =w.heap[i]?
  rw [Array.getElem?_append_left (by simpa using hi),Array.getElem?_modify,if_neg (fun e=>hne (by rw [e]))]
theorem heap_put {α: Type} [Inhabited α] (enc: α->Value) (w: World) (n b off e: Nat) (fz: Nat × Nat) (cs: Array Value) (d: Array α) (os: Array Obj) (h: w.heap[b]? =some (.cells cs e fz)):(grow (putRow enc (Go.Sort.ahead w n) b off d) os).heap[b]? =some (.cells (putCells enc off d cs) e fz):=by
 have hlt: b < w.heap.size:=(Array.getElem?_eq_some_iff.1 h).1
 show ((w.heap.modify b _)++os)[b]? =_
 rw [Array.getElem?_append_left (by simpa using hlt),Array.getElem?_modify,if_pos J,h];rfl
theorem take_put {d: List Int} {cs: Array Value} (h: d.length<=cs.size):(putCells (Value.int .i64) 0 d.toArray cs).toList.take d.length=ints d:=by
 apply List.ext_getElem?
 intro i;rw [List.getElem?_take];unfold ints;rw [List.getElem?_map]
 split
 ·rename_i hi
  have hi2: i < cs.size:=by omega
  unfold putCells;simp only [Array.getElem?_toList,Array.getElem?_mapIdx,Array.getElem?_eq_getElem hi2,Option.map_some,List.size_toArray,Nat.zero_le,Nat.zero_add,true_and,if_pos hi,Nat.sub_zero,List.getElem?_eq_getElem hi]
  congr 2
  rw [getElem!_pos d.toArray i (by simpa using hi)];simp
 ·rename_i hi
  rw [List.getElem?_eq_none j0];rfl
theorem sort_row {P: Program} {f: FuncId} (hc: ∀(blk off cap: Nat) (zs: List Int) (w: World),Holds (Value.int .i64) w blk off zs.toArray->blk < w.heap.size->zs.length < 4611686018427387904->Calls P f #[.slice (some ⟨blk,off,none⟩) zs.length cap] w fun e w'=>e=.returned (.tuple #[])/\∃ n os,w'=grow (putRow (Value.int .i64) (Go.Sort.ahead w n) blk off (zs.mergeSort fun x y=>decide (x<=y)).toArray) os)
  {w0: World} {H: PHeap} {en: Ent} (hI: Inv w0 H [en]) {A: Option Addr} {c e: Nat} {xs: List Int} (hR: Row (.slice A xs.length c) en e 1 xs.length (ints xs)) (hne: xs≠[]) (hl: xs.length < 4611686018427387904) :
  Calls P f #[.slice A xs.length c] w0 fun e' w'=> ∃ en',e'=.returned (.tuple #[])/\Row (.slice A xs.length c) en' e 1 xs.length (ints (srtI xs))/\Step w0 H [en] w' H [en']:=by
 rcases hR.2 with ⟨_,h0,_⟩ |⟨b,cap,cur,h1,h2,h3,h4,h5,h6⟩
 ·exact absurd (List.eq_nil_of_length_eq_zero h0) hne
 ·injection h1 with e1 e2 e3
  subst e1 e3 h2;have hb: w0.heap[b]? =some (.cells cur e (0,0)):=hI.at_ 0 J;have hlt: b < w0.heap.size:=(Array.getElem?_eq_some_iff.1 hb).1;rw [Nat.mul_one] at h5 h6;refine(hc b 0 c xs w0 (fun j hj=>?_) hlt hl).mono fun e' w' ⟨he,n,os,hw⟩=>?_
  ·have hj2: j < xs.length:=by simpa using hj
   have h7: cur[j]? =some (.int .i64 xs[j]):=by
    have h8:=congrArg (fun l=>l[j]?) h6;rw [List.getElem?_take,if_pos hj2] at h8;unfold ints at h8;rw [List.getElem?_map,List.getElem?_eq_getElem hj2] at h8;simpa using h8
   rw [getElem!_pos xs.toArray j hj];refine⟨?_,?_⟩
   ·simp [World.cell?,hb,h7]
   ·simp [World.frozen?,hb]
  ·have hg:=grown_put (Value.int .i64) w0 n b 0 (srtI xs).toArray os;have hb2:=heap_put (Value.int .i64) w0 n b 0 e (0,0) cur (srtI xs).toArray os hb;have hw': w'=grow (putRow (Value.int .i64) (Go.Sort.ahead w0 n) b 0 (srtI xs).toArray) os:=hw;rw [<- hw'] at hg hb2;refine⟨_,he,⟨by unfold ints;rw [List.length_map,cV,Nat.mul_one],.inr ⟨b,c,_,rfl,rfl,h3,h4,?_,?_⟩⟩,(Step.refl hI).regrow (en:=(some b,.cells cur e (0,0))) hg hb2 (.inl J)⟩
   ·rw [Nat.mul_one,<- h5];unfold putCells;simp
   ·rw [Nat.mul_one,<- cV xs];exact take_put (by rw [cV];omega)
section
variable {P: Program} {K: Act->World->Prop} {Q: Exit->Act->World->Prop} {D: List Deferred} {a: Act} {w: World} {N: Nat} {m: Env} {d: Nat} {ty: TypeId} {pos: String} {aft: Array Edge} {g: Option (Nat × Bool)} {x: Operand} {t u: TypeId}
theorem o_conv0 (ht: P.underlying t=some (.int .i64)) (hu: P.underlying u=some (.int .u64)) (ha: Has D a N m) (hx: ev m x=some (.int .i64 0)) (hd: Nat.blt d N=true) (k: ∀ a',Has D a' N ((d,.int .u64 0)::m)->K a' w) :
  Oper.wp P ⟨some d,.convert t u x,ty,pos,aft,g⟩ a w K Q:=by
 refine aM (v:=.int .u64 0) (w':=w) ?_ ha hd k;simp [execOp,convert,ha.ev hx,run_underlying ht,run_underlying hu,Conv.intToInt,IntKind.wrap,IntKind.bits,IntKind.signed]
end
end Go.Vk
namespace Go.Proofs
open Go.Shelf
def Tryz.lays189_ren: Go.Shelf.Ren:=⟨fun | 189=>106 | 125=>138 | 257=>137 | 128=>155 | 129=>156 | 294=>146 | 295=>147 | 296=>148 | 297=>149 | 298=>150 | 299=>151 | 216=>152 | 300=>153 | 301=>154 | 328=>163 | 329=>164 | 330=>165 | 331=>166 | 332=>167 | 215=>168 | 343=>178 | n=>n,fun | 28=>26 | 3=>3 | 46=>176 | 0=>0 | 51=>196 | 53=>198 | 4=>4 | 183=>188 | 182=>187 | 131=>193 | 5=>5 | 9=>9 | 218=>206 | 222=>169 | 228=>212 | 229=>204 | n=>n,fun | n=>n⟩
theorem Tryz.lays189: Go.Proofs.Lays.n189 Tryz.prog Tryz.lays189_ren:= {
 mixed:=by kernel_rfl
 f125:=Tryz.func138.trans (congrArg some (by kernel_rfl))
 f128:=Tryz.func155.trans (congrArg some (by kernel_rfl))
 f129:=Tryz.func156.trans (congrArg some (by kernel_rfl))
 f189:=Tryz.func106.trans (congrArg some (by kernel_rfl))
 f215:=Tryz.func168.trans (congrArg some (by kernel_rfl))
 f216:=Tryz.func152.trans (congrArg some (by kernel_rfl))
 f257:=Tryz.func137.trans (congrArg some (by kernel_rfl))
 f294:=Tryz.func146.trans (congrArg some (by kernel_rfl))
 f295:=Tryz.func147.trans (congrArg some (by kernel_rfl))
 f296:=Tryz.func148.trans (congrArg some (by kernel_rfl))
 f297:=Tryz.func149.trans (congrArg some (by kernel_rfl))
 f298:=Tryz.func150.trans (congrArg some (by kernel_rfl))
 f299:=Tryz.func151.trans (congrArg some (by kernel_rfl))
 f300:=Tryz.func153.trans (congrArg some (by kernel_rfl))
 f301:=Tryz.func154.trans (congrArg some (by kernel_rfl))
 f328:=Tryz.func163.trans (congrArg some (by kernel_rfl))
 f329:=Tryz.func164.trans (congrArg some (by kernel_rfl))
 f330:=Tryz.func165.trans (congrArg some (by kernel_rfl))
 f331:=Tryz.func166.trans (congrArg some (by kernel_rfl))
 f332:=Tryz.func167.trans (congrArg some (by kernel_rfl))
 f343:=Tryz.func178.trans (congrArg some (by kernel_rfl))
 t0:=Tryz.underlying0
 a0:=Tryz.isAgg0
 z0:=Tryz.sizeOf0
 v0:=Tryz.zeroValue0
 t3:=Tryz.underlying3
 a3:=Tryz.isAgg3
 z3:=Tryz.sizeOf3
 v3:=Tryz.zeroValue3
 t4:=Tryz.underlying4
 a4:=Tryz.isAgg4
 z4:=Tryz.sizeOf4
 v4:=Tryz.zeroValue4
 t5:=Tryz.underlying5
 a5:=Tryz.isAgg5
 z5:=Tryz.sizeOf5
 v5:=Tryz.zeroValue5
 t9:=Tryz.underlying9
 a9:=Tryz.isAgg9
 z9:=Tryz.sizeOf9
 v9:=Tryz.zeroValue9
 t28:=Tryz.underlying26
 a28:=Tryz.isAgg26
 z28:=Tryz.sizeOf26
 v28:=Tryz.zeroValue26
 t46:=Tryz.underlying176
 a46:=Tryz.isAgg176
 z46:=Tryz.sizeOf176
 v46:=Tryz.zeroValue176
 t51:=Tryz.underlying196
 a51:=Tryz.isAgg196
 z51:=Tryz.sizeOf196
 v51:=Tryz.zeroValue196
 t53:=Tryz.underlying198
 a53:=Tryz.isAgg198
 z53:=Tryz.sizeOf198
 v53:=Tryz.zeroValue198
 t131:=Tryz.underlying193
 a131:=Tryz.isAgg193
 z131:=Tryz.sizeOf193
 v131:=Tryz.zeroValue193
 t182:=Tryz.underlying187
 a182:=Tryz.isAgg187
 z182:=Tryz.sizeOf187
 v182:=Tryz.zeroValue187
 t183:=Tryz.underlying188
 a183:=Tryz.isAgg188
 z183:=Tryz.sizeOf188
 v183:=Tryz.zeroValue188
 t218:=Tryz.underlying206
 a218:=Tryz.isAgg206
 z218:=Tryz.sizeOf206
 v218:=Tryz.zeroValue206
 t222:=Tryz.underlying169
 a222:=Tryz.isAgg169
 z222:=Tryz.sizeOf169
 v222:=Tryz.zeroValue169
 t228:=Tryz.underlying212
 a228:=Tryz.isAgg212
 z228:=Tryz.sizeOf212
 v228:=Tryz.zeroValue212
 t229:=Tryz.underlying204
 a229:=Tryz.isAgg204
 z229:=Tryz.sizeOf204
 v229:=Tryz.zeroValue204 }
def Tryz.lays125_ren: Go.Shelf.Ren:=⟨fun | 125=>138 | 128=>155 | 129=>156 | n=>n,fun | 46=>176 | 3=>3 | 51=>196 | 53=>198 | 4=>4 | 5=>5 | 9=>9 | n=>n,fun | n=>n⟩
theorem Tryz.lays125: Go.Proofs.Lays.n125 Tryz.prog Tryz.lays125_ren:= {
 mixed:=by kernel_rfl
 f125:=Tryz.func138.trans (congrArg some (by kernel_rfl))
 f128:=Tryz.func155.trans (congrArg some (by kernel_rfl))
 f129:=Tryz.func156.trans (congrArg some (by kernel_rfl))
 t3:=Tryz.underlying3
 a3:=Tryz.isAgg3
 z3:=Tryz.sizeOf3
 v3:=Tryz.zeroValue3
 t4:=Tryz.underlying4
 a4:=Tryz.isAgg4
 z4:=Tryz.sizeOf4
 v4:=Tryz.zeroValue4
 t5:=Tryz.underlying5
 a5:=Tryz.isAgg5
 z5:=Tryz.sizeOf5
 v5:=Tryz.zeroValue5
 t9:=Tryz.underlying9
 a9:=Tryz.isAgg9
 z9:=Tryz.sizeOf9
 v9:=Tryz.zeroValue9
 t46:=Tryz.underlying176
 a46:=Tryz.isAgg176
 z46:=Tryz.sizeOf176
 v46:=Tryz.zeroValue176
 t51:=Tryz.underlying196
 a51:=Tryz.isAgg196
 z51:=Tryz.sizeOf196
 v51:=Tryz.zeroValue196
 t53:=Tryz.underlying198
 a53:=Tryz.isAgg198
 z53:=Tryz.sizeOf198
 v53:=Tryz.zeroValue198 }
end Go.Proofs
namespace Go.Vk.Tryz
open Go.RowKit
theorem c_ins0 {w0: World} {H: PHeap} (hI: Inv w0 H []) {A: Option Addr} {c: Nat}: Calls prog 146 #[(.slice A 0 c),(iV 0),(iV 0)] w0 (fun e w'=>e=.returned (.tuple #[])/\Step w0 H [] w' H []):=by
 have C:=Step.refl hI;refine enter [(.slice A 0 c),(iV 0),(iV 0)] func146 J ntmps146 J fun a q=>?_;refine wp_seq (ab (Lm J q fun a q=>?_));refine lin J (aL (i:=0) (j:=1) q J J J j0 fun a q=>?_);refine Ls J q fun a q=>?_;refine wpList_nil (aa (wp_block (a6 (fun G a w=>G=0/\Has [] a 49 [(0,(.slice A 0 c)),(1,(iV 0)),(2,(iV 0)),(6,(iV 1))]/\Step w0 H [] w H []) _ ⟨rfl,q.pk J,C⟩ ?_)));intro O a w F;obtain⟨I,q,C⟩:=F;refine wp_seq (wp_seq (ab (Lm J q fun a q=>?_)));refine Lm J q fun a q=>?_;refine lin J (bl (i:=1) (j:=0) q J J J fun a q=>?_);refine wpList_nil (aa (ah q J (wp_exit (az (az (aN (ret0 J q ?_)))))));exact⟨rfl,C⟩
theorem c_pdq0 {w0: World} {H: PHeap} (hI: Inv w0 H []) {A: Option Addr} {c: Nat} {lim: Int}: Calls prog 137 #[(.slice A 0 c),(iV 0),(iV 0),(iV lim)] w0 (fun e w'=>e=.returned (.tuple #[])/\Step w0 H [] w' H []):=by
 have C:=Step.refl hI;refine enter [(.slice A 0 c),(iV 0),(iV 0),(iV lim)] func137 J ntmps137 J fun a q=>?_;refine wp_seq (ab (Ls J q fun a q=>?_));refine wpList_nil (aa (wp_seq (ab (Ls J q fun a q=>?_))));refine wpList_nil (aa (wp_block (a6 (fun I a w=>I=0/\Has [] a 134 [(0,(.slice A 0 c)),(1,(iV 0)),(2,(iV 0))]/\Step w0 H [] w H []) _ ⟨rfl,q.pk J,C⟩ ?_)));intro T a w F;obtain⟨O,q,C⟩:=F;refine wp_block (wp_seq (ab (Lm J q fun a q=>?_)));refine Lm J q fun a q=>?_;refine lin J (cx (i:=0) (j:=0) q J J J j0 fun a q=>?_);refine Ls J q fun a q=>?_;refine wpList_nil (aa (wp_seq (wp_seq (ab (Lm J q fun a q=>?_)))));refine lin J (gg (i:=0) (j:=12) q J J J fun a q=>?_);refine wpList_nil (aa (ap q J (wp_seq (ab (Lm J q fun a q=>?_)))));refine Lm J q fun a q=>?_;refine Lm J q fun a q=>?_;have G:=c_ins0 (A:=A) (c:=c) C.inv.nil;refine lin J (Cs func146 q J (G) C fun a w q C=>?_);refine wpList_nil (aa (wp_ret (ai (aA (ai (aA (ret0r J q ?_)))))));exact⟨rfl,C⟩
theorem c_Sort0 {w0: World} {H: PHeap} (hI: Inv w0 H []) {A: Option Addr} {c: Nat}: Calls prog 106 #[(.slice A 0 c)] w0 (fun e w'=>e=.returned (.tuple #[])/\Step w0 H [] w' H []):=by
 have C:=Step.refl hI;refine enter [(.slice A 0 c)] func106 J ntmps106 J fun a q=>?_;refine wp_seq (ab (Lm J q fun a q=>?_));refine lin J (aI T26.und q J J fun a q=>?_);refine Ls J q fun a q=>?_;refine wpList_nil (aa (ab (Lm J q fun a q=>?_)));refine Lm J q fun a q=>?_;refine Lm J q fun a q=>?_;refine lin J (o_conv0 T3.und T176.und q J J fun a q=>?_);have G: ∀ w,Calls prog 138 #[.int .u64 0] w (fun e w'=>e=.returned (iV (Lib.bitLen 0))/\w'=w):=fun w=>Go.Proofs.Any.bits_Len lays125 0 w j4 j4;refine lin J (Co func138 q J (G _) ?_);rintro e w' ⟨rfl,rfl⟩;refine⟨_,rfl,fun a q=>?_⟩;have F:=c_pdq0 (A:=A) (c:=c) (lim:=(Lib.bitLen 0)) C.inv.nil;refine lin J (Cs func137 q J (F) C fun a w q C=>?_);refine wpList_nil (ret0 J q ?_);exact⟨rfl,C⟩
theorem c_SortI {w0: World} {H: PHeap} {en: Ent} (hI: Inv w0 H [en]) {A: Option Addr} {c: Nat} {xs: List Int} (hR: Row (.slice A xs.length c) en 3 1 xs.length (ints xs)) (hl: xs.length<=17592186044416): Calls prog 106 #[.slice A xs.length c] w0 (fun e w'=> ∃ en',e=.returned (.tuple #[])/\Row (.slice A (srtI xs).length c) en' 3 1 (srtI xs).length (ints (srtI xs))/\Step w0 H [en] w' H [en']):=by
 by_cases C: xs= []
 ·subst C;exact(c_Sort0 hI.drop).mono fun e w' ⟨he,q⟩=>⟨en,he,by rw [srtI_nil];exact hR,Step.frame (Lc:= []) (R:= [en]) (Step.refl hI) q⟩
 ·refine(sort_row (fun F V G X w I O T=>Go.Proofs.Any.slices_Sort_int lays189 F V G X w I O T) hI hR C j0).mono fun e w' ⟨en',he,J,q⟩=>⟨en',he,?_,q⟩;rw [cV];exact J
theorem c_SortedM {w0: World} {H: PHeap} {Lmm: List Ent} (hI: Inv w0 H Lmm) {qa qb p: Nat} {bs: BS} {tk: List Bool} {u: Int} {A: Option Addr} {c: Nat} {xs: List Wd} (hr: RowG 4 Wd.cells H A c xs) (hP: HP p bs tk u Lmm) (hb1: H qa=some (.cells #[.pointer (some ⟨p,0,none⟩)] 44 (0,0))) (hb2: H qb=some (.cells #[.slice A xs.length c] 37 (0,0))): Calls prog 56 #[(.func (.func 107) #[] #[.pointer (some ⟨qa,0,none⟩),.pointer (some ⟨qb,0,none⟩)])] w0 (fun e w'=> ∃ H' A c en,e=.returned (.slice A (srtI (BL (er bs) xs)).length c)/\Row (.slice A (srtI (BL (er bs) xs)).length c) en 3 1 (srtI (BL (er bs) xs)).length (ints (srtI (BL (er bs) xs)))/\Step w0 H Lmm w' H' (en::Lmm)):=by
 have Z:(BL (er bs) xs).length<=65536:=by
  obtain⟨_,_,_,_,_,_,_,a5,_⟩:=hP.facts;have T:=fV (S:=er bs) (roots:=xs);rw [bB] at T;omega
 obtain⟨ys,G⟩: ∃ ys,BL (er bs) xs=ys:=⟨_,rfl⟩;rw [G] at Z ⊢;have C:=Step.refl hI;refine enter [(.func (.func 107) #[] #[.pointer (some ⟨qa,0,none⟩),.pointer (some ⟨qb,0,none⟩)])] func56 J ntmps56 J fun a q=>?_;refine wp_seq (ab (Ls J q fun a q=>?_));refine wpList_nil (aa (wp_seq (ab (Lm J q fun a q=>?_))));have F:=c_CollectM (C.tail []) hr hP hb1 hb2;rw [G] at F;refine lin J (Co func71 q J (F) ?_);rintro e w ⟨a1,a0,a2,a3,rfl,I,X⟩;refine⟨_,rfl,fun a q=>?_⟩;have C:=Step.frameR [] C X;refine Ls J q fun a q=>?_;refine wpList_nil (aa (wp_seq (ab (Lm J q fun a q=>?_))));have Y:=c_SortI C.inv.one I j0;refine lin J (Co func106 q J (Y) ?_);rintro e w ⟨a4,rfl,O,V⟩;refine⟨_,rfl,fun a q=>?_⟩;have C:=C.call_one V;rw [show ys.length=(srtI ys).length from (cV _).symm] at q;refine wpList_nil (aa (wp_seq (ab (Lm J q fun a q=>?_))));refine Ls J q fun a q=>?_;refine wpList_nil (aa (wp_ret (ret1 J q J ?_)));exact⟨_,_,_,_,rfl,O,C⟩
def liveL (S: PS) (xs: List Wd): List Int × Int:=if allS S xs=false then ([],211) else (srtI (BL S xs),0)
theorem c_Live {w0: World} {H: PHeap} {L: List Ent} {p: Nat} {h: HS} (hI: Inv w0 H L) (hK: HK p h L) (hO: h.Ok) {A: Option Addr} {c: Nat} {xs: List Wd} (hr: RowG 4 Wd.cells H A c xs): Calls prog 17 #[(pB p),(.slice A xs.length c)] w0 (fun e w'=> ∃ H' A c en,e=.returned (.tuple #[.slice A (liveL h.S xs).1.length c,.int .i64 (liveL h.S xs).2])/\Row (.slice A (liveL h.S xs).1.length c) en 3 1 (liveL h.S xs).1.length (ints (liveL h.S xs).1)/\Step w0 H L w' H' (en::L)):=by
 obtain⟨bs,G,O⟩:=hK;have C:=Step.refl hI;have hl:=HK.len hO G;have hu:=hO.u;have hu: -100000000000<=h.u/\h.u<=100000000000:=by omega
 have ac:=hr.2.1;refine enter [(pB p),(.slice A xs.length c)] func17 J ntmps17 J fun a q=>?_;refine wp_seq (ab (Ls J q fun a q=>?_));refine Ls J q fun a q=>?_;refine wpList_nil (aa (wp_seq (wp_seq (ab (Lm J q fun a q=>?_)))));refine lin J (aW T44.und T103 q J J J fun a q=>?_);refine Lm J q fun a q=>?_;refine ae J q J J J (aj q J J fun a q=>?_);refine ae J q J J J (aj q J J fun a q=>?_);have Z:=eH (C.tail []) O ((RdG.of_data C.inv hr).fewer (bx []));refine ae J q J J J (Co func55 q J (Z) ?_);rintro e w ⟨rfl,V⟩;refine⟨_,rfl,fun a q=>?_⟩;have C:=C.frameR [] V;refine ae J q J J J (aS q J J fun a q=>?_);refine lin J (am q J J J fun a q=>?_);refine wpList_nil (aa (au (t:=13) q J (fun h2 q=>?_) (fun h2 q=>?_)))
 ·refine ap q J (wp_seq (ab (Ls J q fun a q=>?_)));refine Ls J q fun a q=>?_;refine wpList_nil (aa (wp_ret (ai (ret2 J q J J ?_))));have F: allS (er bs) xs=false:=by simpa using h2
  rw [G] at F;have I: liveL h.S xs=([],211):=by unfold liveL;rw [if_pos F]
  rw [I];exact⟨_,none,0,noEnt,rfl,Row.nil _ _,C.cons_none (en:=noEnt) J⟩
 ·refine ah q J (wp_skip (aa (wp_seq (ab (Lm J q fun a q=>?_)))));refine Lm J q fun a q=>?_;have a0:=fr (p:=p) C.inv.nil hr;refine lin J (Co func57 q J (a0) ?_);rintro e w ⟨a6,ad,af,rfl,a2,a3,a4,X⟩;refine⟨_,rfl,fun a q=>?_⟩;have C:=C.call X;have a1:=c_SortedM (C.tail []) a4 O a2 a3;refine lin J (Co func56 q J (a1) ?_);rintro e w ⟨a7,a5,a8,a9,rfl,T,Y⟩;refine⟨_,rfl,fun a q=>?_⟩;have C:=Step.frameR [] C Y;refine Ls J q fun a q=>?_;refine Ls J q fun a q=>?_;refine wpList_nil (aa (wp_ret (ret2 J q J J ?_)));have F: allS (er bs) xs=true:=by simpa using h2
  rw [G] at F;have I: liveL h.S xs=(srtI (BL (er bs) xs),0):=by unfold liveL;rw [if_neg (by rw [F];simp),G]
  rw [I];exact⟨_,_,_,_,rfl,T,C⟩
theorem c_fillA {Ab: Option Addr} {cb nn: Nat} {w0: World} {H: PHeap} {L: List Ent} {p: Nat} {bs: BS} {tk: List Bool} {u: Int} (hI: Inv w0 H L) (hP: HPA Ab cb nn p bs tk u L) {a_ size: Nat} {v: Bool} (hz: size<=1000) (hfit: a_+size<=nn) (hu: -1000000000000<=u/\u<=1000000000000): Calls prog 108 #[(pB p),(iV ((a_: Nat): Int)),(iV ((size: Nat): Int)),(.bool v)] w0 (fun e w'=> ∃ L',e=.returned (.tuple #[])/\HPA Ab cb nn p bs (fillP tk a_ size v) (if v then u+size else u - size) L'/\Step w0 H L w' H L'):=by
 obtain⟨F,G,a2,a3,fs,rfl,a7,Z,ad,ai,a8,a5⟩:=hP.open_;have C:=Step.refl hI;refine enter [(pB p),(iV ((a_: Nat): Int)),(iV ((size: Nat): Int)),(.bool v)] func108 J ntmps108 J fun a q=>?_;refine wp_seq (wp_seq (ab (Lm J q fun a q=>?_)));refine Lm J q fun a q=>?_;refine wpList_nil (aa (wp_block (a6 (fun aq a w=> ∃(k: Nat),∃(O: List Bool),∃(X: Ent),aq=size - k/\Has [] a 40 [(0,(pB p)),(1,(iV ((a_: Nat): Int))),(2,(iV ((size: Nat): Int))),(3,(.bool v)),(9,(iV ((size: Nat): Int))),(10,(iV ((k: Nat): Int)))]/\Step w0 H ((eO p 103 #[.slice Ab nn cb,.slice F nn G,.int .i64 u])::a2::a3::fl3 fs) w H ((eO p 103 #[(.slice Ab nn cb),(.slice F nn G),(iV u)])::a2::X::(fl3 fs))/\(Row (.slice F nn G) X 4 1 nn (bls O))/\(O=fillP tk a_ k v)/\(k<=size)) _ ⟨0,tk,a3,rfl,q.pk J,C,ai,(fillP_zero _ _ _).symm,j0⟩ ?_)));intro b4 a w aj;obtain⟨k,O,X,b2,q,C,I,V,b1⟩:=aj;have b3: O.length=nn:=by rw [V,bO j0];exact Z
 refine wp_seq (ab (lin J (bl (i:=((k: Nat): Int)) (j:=((size: Nat): Int)) q J J J fun a q=>?_)));refine wpList_nil (aa (wp_seq (an (t:=11) q J (fun h2 q=>?_) (fun h2 q=>?_))))
 ·refine ap q J (wp_skip (aa (wp_seq (wp_block (wp_seq (ab (Lm J q fun a q=>?_)))))));refine Ls J q fun a q=>?_;refine wpList_nil (aa (ab (Lm J q fun a q=>?_)));refine lin J (av q J J fun a q=>?_);refine lin J (ac (f:=1) (o2:=1) T103 T101 J J J J q J J fun a q=>?_);refine lin J (af (v:=(.slice F nn G)) T101 J q J (C.blkL 0 J) J J fun a q=>?_);refine Lm J q fun a q=>?_;refine Lm J q fun a q=>?_;refine lin J (aL (i:=((a_: Nat): Int)) (j:=((k: Nat): Int)) q J J J j0 fun a q=>?_);refine Lm J q fun a q=>?_;obtain⟨a1,aw,ax,al,ay,ae, -⟩:=I.at_ (j:=(a_+k)) j0;have a4:(F: Option Addr)=some ⟨a1,0,none⟩:=by injection al
  obtain⟨ar,am⟩: ∃ x,O[(a_+k)]? =some x:=⟨_,List.getElem?_eq_getElem j5⟩;have ae:=ae 0 (.bool ar) j0 (bV am);refine lin J (aC (b:=a1) (o:=0) (j:=(a_+k)) T101.und T4 a4 q J J j0 j0 J fun a q=>?_);refine lin J (dl (j:=(a_+k)) T4 C (i:=2) J I J a4 j0 J q J J J J fun ag a w a9 b0 C q=>?_);rw [show (Value.cells _).toList= [.bool v] from rfl,ck j5] at a9;refine wpList_nil (ao (aa (ab (lin J (aL (i:=((k: Nat): Int)) (j:=1) q J J J j0 fun a q=>?_)))));refine Lm J q fun a q=>?_;refine wpList_nil (aa (?_));exact⟨size - (k+1),by omega,(k+1),(O.set (a_+k) v),ag,rfl,q.pk J,C,a9,(by rw [V];exact fillP_step j0),j0⟩
 ·refine ah q J (wp_exit (az (az (aN (aa (wp_seq (ab (Lm J q fun a q=>?_))))))));refine wpList_nil (aa (au (t:=23) q J (fun Y q=>?_) (fun Y q=>?_)))
  ·refine ap q J (ab (Lm J q fun a q=>?_));refine lin J (av q J J fun a q=>?_);refine lin J (ac (f:=2) (o2:=2) T103 T3 J J J J q J J fun a q=>?_);refine lin J (af (v:=(iV u)) T3 J q J (C.blkL 0 J) J J fun a q=>?_);refine Lm J q fun a q=>?_;refine lin J (aL (i:=u) (j:=((size: Nat): Int)) q J J J j0 fun a q=>?_);refine lin J (av q J J fun a q=>?_);refine lin J (ac (f:=2) (o2:=2) T103 T3 J J J J q J J fun a q=>?_);refine lin J (ak (cs':= #[(.slice Ab nn cb),(.slice F nn G),(iV (u+((size: Nat): Int)))]) T3 C (i:=0) J q J J J J J J fun a w C q=>?_);refine wpList_nil (ret0 J q ?_);have a0: k=size:=by omega
   subst a0 V;have T:(fillP tk a_ k v).length=nn:=by rw [bO j0];exact Z
   rw [Y] at I T ⊢;exact⟨_,rfl,HPA.mk' a7 T ad I a8 a5,C⟩
  ·refine ah q J (ab (Lm J q fun a q=>?_));refine lin J (av q J J fun a q=>?_);refine lin J (ac (f:=2) (o2:=2) T103 T3 J J J J q J J fun a q=>?_);refine lin J (af (v:=(iV u)) T3 J q J (C.blkL 0 J) J J fun a q=>?_);refine Lm J q fun a q=>?_;refine lin J (cx (i:=u) (j:=((size: Nat): Int)) q J J J j0 fun a q=>?_);refine lin J (av q J J fun a q=>?_);refine lin J (ac (f:=2) (o2:=2) T103 T3 J J J J q J J fun a q=>?_);refine lin J (ak (cs':= #[(.slice Ab nn cb),(.slice F nn G),(iV (u - ((size: Nat): Int)))]) T3 C (i:=0) J q J J J J J J fun a w C q=>?_);refine wpList_nil (ret0 J q ?_);have a0: k=size:=by omega
   subst a0 V;have T:(fillP tk a_ k v).length=nn:=by rw [bO j0];exact Z
   rw [Y] at I T ⊢;exact⟨_,rfl,HPA.mk' a7 T ad I a8 a5,C⟩
theorem c_clearA {Ab: Option Addr} {cb nn: Nat} {w0: World} {H: PHeap} {L: List Ent} {p: Nat} {bs: BS} {tk: List Bool} {u: Int} (hI: Inv w0 H L) (hP: HPA Ab cb nn p bs tk u L) {a_: Nat} {i: Int} {b: BK} (hi: i=((a_: Nat): Int)) (hx: bs[a_]? =some (some b)) (hfit: a_+b.2.size<=nn) (hu: -100000000000<=u/\u<=100000000000): Calls prog 58 #[.pointer (some ⟨p,0,none⟩),.int .i64 i] w0 (fun e w'=> ∃ L' t,e=.returned (.tuple #[])/\Bk3 (some b) t/\HPA Ab cb nn p (bs.set a_ none) (fillP tk a_ b.2.size false) (u - ((b.2.size: Nat): Int)) L'/\Step w0 H L w' H (t.1::t.2.1::t.2.2::L')):=by
 obtain⟨T,X,Y,Z,fs,rfl,I,O,a4,au,ao,G⟩:=hP.open_;have C:=Step.refl hI;subst hi;obtain⟨t,ht,ak⟩:=G.get hx;have a6:=G.ok _ _ hx;have bk:=a6.size;have bf: a_ < nn:=by have bc:=(List.getElem?_eq_some_iff.1 hx).1;omega
 refine enter [(pB p),(iV ((a_: Nat): Int))] func58 J ntmps58 J fun a q=>?_;refine wp_seq (ab (Lm J q fun a q=>?_));refine Lm J q fun a q=>?_;refine Lm J q fun a q=>?_;refine lin J (av q J J fun a q=>?_);refine lin J (ac (f:=0) (o2:=0) T103 T100 J J J J q J J fun a q=>?_);refine lin J (af (v:=(.slice Ab nn cb)) T100 J q J (C.blkL 0 J) J J fun a q=>?_);refine Lm J q fun a q=>?_;obtain⟨a9,F,b6,ag,a8,b2,az,ay⟩:=Row.getG bN j4 a4 (j:=a_) j0;have aj:(Ab: Option Addr)=some ⟨F,0,none⟩:=by injection b2
 refine lin J (aC (b:=F) (o:=0) (j:=a_) T100.und T105 aj q J J j0 j0 J fun a q=>?_);refine lin J (af (v:=(bkv a9)) T105 J q J (C.blkL 1 (b:=F) (o:=.cells ag 105 (0,0)) (by rw [<- az];rfl)) (ay 0 _ J) J fun a q=>?_);obtain rfl: a9=some b:=by rw [hx] at a8;exact(Option.some.inj a8).symm
 refine lin J (ff C (a7 [(eO p 103 #[(.slice Ab nn cb),(.slice T nn X),(iV u)]),Y,Z] (bg ht)) ak a6 q J J fun a w C q=>?_);have aq: HPA Ab cb nn p bs tk u ((eO p 103 #[(.slice Ab nn cb),(.slice T nn X),(iV u)])::Y::Z::(fl3 fs)):=HPA.mk' (by first | exact I | exact List.length_set.trans I |(simp only [List.length_set];done) |(simp only [List.length_set];exact I)) (by first | exact O | exact List.length_set.trans O |(simp only [List.length_set];done) |(simp only [List.length_set];exact O)) a4 au ao G;have b0:=c_fillA (a_:=a_) (size:=b.2.size) (v:=false) (C.tail []) aq j0 j0 j0;refine lin J (Co func108 q J (b0) ?_);rintro e w ⟨b5,rfl,ar,ax⟩;refine⟨_,rfl,fun a q=>?_⟩;have C:=C.frameR [] ax;refine wpList_nil (aa (ab (Lm J q fun a q=>?_)));refine lin J (av q J J fun a q=>?_);obtain⟨ad,ae,b9,ai,ba,am,a2,an,a5,aw,ap,a1⟩:=(ar).open_;have C:=Step.castR [] am C;refine lin J (ac (f:=0) (o2:=0) T103 T100 J J J J q J J fun a q=>?_);refine lin J (af (v:=(.slice Ab nn cb)) T100 J q J (C.blkL 0 J) J J fun a q=>?_);refine Lm J q fun a q=>?_;obtain⟨bm,V,b7,b8,bl,b3,bi,bh⟩:=Row.getG bN j4 a5 (j:=a_) j0;have a0:(Ab: Option Addr)=some ⟨V,0,none⟩:=by injection b3
 refine lin J (aC (b:=V) (o:=0) (j:=a_) T100.und T105 a0 q J J j0 j0 J fun a q=>?_);refine lin J (dl (j:=a_) T105 C (i:=1) J a5 J a0 j0 J q J J J J fun ah a w a3 bj C q=>?_);rw [show (Value.cells _).toList=bkc none from rfl,dh bN j5] at a3;refine wpList_nil (ret0 J q ?_);obtain⟨b4,b1,al⟩:=a1.get hx;have C:=Step.blkOut [(eO p 103 #[(.slice Ab nn cb),(.slice ad nn ae),(iV (u - ((b.2.size: Nat): Int)))]),ah,ai] b1 C;exact⟨_,b4,rfl,al,HPA.mk' (by first | exact a2 | exact List.length_set.trans a2) an a3 aw ap (a1.set (o:=none) (t:=(noEnt,noEnt,noEnt)) ⟨rfl,rfl,rfl⟩ (fun b e=>by cases e)),C⟩
set_option maxHeartbeats 4000000 in
theorem c_Sweep {w0: World} {H: PHeap} {L: List Ent} {p: Nat} {h: HS} (hI: Inv w0 H L) (hK: HK p h L) (hO: h.Ok) {A: Option Addr} {c: Nat} {xs: List Wd} (hr: RowG 4 Wd.cells H A c xs): Calls prog 19 #[(pB p),(.slice A xs.length c)] w0 (fun e w'=> ∃ H' L',e=.returned (.tuple #[.int .i64 (h.sweep xs).2.1,.int .i64 (h.sweep xs).2.2])/\HK p (h.sweep xs).1 L'/\Step w0 H L w' H' L'):=by
 obtain⟨bs,Y,ad⟩:=hK;have C:=Step.refl hI;have hl:=HK.len hO Y;have hu:=hO.u;have hu: -100000000000<=h.u/\h.u<=100000000000:=by omega
 have f5:=hr.2.1;have f4:=hr.1;refine enterM [(pB p),(.slice A xs.length c)] func19 J ntmps19 J fun a q=>?_;refine wp_seq (ab (Ls J q fun a q=>?_));refine Ls J q fun a q=>?_;refine wpList_nil (aa (wp_seq (wp_seq (ab (Lm J q fun a q=>?_)))));refine lin J (aW T44.und T103 q J J J fun a q=>?_);refine Lm J q fun a q=>?_;refine ae J q J J J (aj q J J fun a q=>?_);refine ae J q J J J (aj q J J fun a q=>?_);have d2:=eH (C.tail []) ad ((RdG.of_data C.inv hr).fewer (bx []));refine ae J q J J J (Co func55 q J (d2) ?_);rintro e w ⟨rfl,b4⟩;refine⟨_,rfl,fun a q=>?_⟩;have C:=C.frameR [] b4;refine ae J q J J J (aS q J J fun a q=>?_);refine lin J (am q J J J fun a q=>?_);refine wpList_nil (aa (au (t:=18) q J (fun h2 q=>?_) (fun h2 q=>?_)))
 ·refine ap q J (wp_seq (ab (Ls J q fun a q=>?_)));refine Ls J q fun a q=>?_;refine wpList_nil (aa (wp_ret (ai (?_))));have al: allS (er bs) xs=false:=by simpa using h2
  rw [Y] at al;have b6: h.sweep xs=(h,(0,211)):=by unfold HS.sweep;rw [if_pos al]
  rw [b6];exact retM2 (rs:= []) J (show Step _ _ _ _ _ (([]: List Nat).map openBlk++L) from C) q J J fun w C=>⟨_,_,rfl,⟨bs,Y,ad⟩,C⟩
 ·refine ah q J (wp_skip (aa (wp_seq ?_)));obtain⟨c7,ch,dp,dw,e1,e5,e9,bu,eh,el,et,ex,ep,ed⟩:=(ad).open_;have C:=Step.castR [] bu C;refine ab (Lm J q fun a q=>?_);refine lin J (av q J J fun a q=>?_);refine lin J (ac (f:=0) (o2:=0) T103 T100 J J J J q J J fun a q=>?_);refine lin J (af (v:=(.slice c7 bs.length ch)) T100 J q J (C.blkL 0 J) J J fun a q=>?_);refine lin J (aI T100.und q J J fun a q=>?_);refine lin J (eR (k:=bs.length) T101.und T4 J J C q J J j0 j0 j0 J J fun a8 a w bz C q=>?_);rw [cM] at bz C;refine lin J (aE (cs:= #[(.slice none 0 0)]) T101 C q J J fun I a w C q=>?_);refine lin J (ak (cs':= #[(.slice (some ⟨a8,0,none⟩) bs.length bs.length)]) T101 C (i:=0) J q J J J J J J fun a w C q=>?_);refine wpList_nil (aa (wp_seq (wp_seq ?_)));have C:=Step.castB [(eO I 101 #[(.slice (some ⟨a8,0,none⟩) bs.length bs.length)]),(eO a8 4 (bls (List.replicate bs.length false)).toArray)] C bu;refine ab (Lm J q fun a q=>?_);refine Lm J q fun a q=>?_;have d4:=fr (p:=p) C.inv.nil hr;refine lin J (Co func57 q J (d4) ?_);rintro e w ⟨bi,c2,c3,rfl,d5,d6,d7,ct⟩;refine⟨_,rfl,fun a q=>?_⟩;have C:=C.call ct;refine wpList_nil (aa (wp_block ?_));have d8:(List.replicate bs.length false)=markL bs.length ((blocksS (er bs) xs).take 0):=rfl;refine c_rangeM (D:= []) (N:=65) (m:= [(0,(pB p)),(4,(iV 0)),(5,(iV 0)),(6,(pB I)),(27,(.func (.func 107) #[] #[.pointer (some ⟨c2,0,none⟩),.pointer (some ⟨c3,0,none⟩)]))]) (w0:=w0) (H0:=H) (L0:=L) (H:=bi) (n:=(BL (er bs) xs).length) (Lm:=L) func107 J J J J (q.pk J) C (c_blocks1 d7 ad d5 d6) (fun a7 c8 L1=> ∃(A: Option Addr) (c: Nat) (aw: Ent) (o: List Bool),L1=((eO I 101 #[(.slice A bs.length c)])::aw::L)/\Le bi c8/\Row (.slice A bs.length c) aw 4 1 bs.length (bls o)/\o=markL bs.length ((blocksS (er bs) xs).take a7)) (fun _ _ _ ⟨A,c,aw,o,h,_⟩=>⟨[(eO I 101 #[(.slice A bs.length c)]),aw],h⟩) ⟨(some ⟨a8,0,none⟩),bs.length,(eO a8 4 (bls (List.replicate bs.length false)).toArray),(List.replicate bs.length false),rfl,Le.refl _,bz,d8⟩ (fun a7 v ar E cf=> ∃ bh: Int,(BL (er bs) xs)[a7]? =some bh/\v=.int .i64 bh/\E= []/\Has [] cf 65 [(0,(pB p)),(4,(iV 0)),(5,(iV 0)),(6,(pB I)),(7,(iV bh)),(27,(.func (.func 107) #[] #[.pointer (some ⟨c2,0,none⟩),.pointer (some ⟨c3,0,none⟩)]))]) ?_ ?_ ?_
  ·rintro l a7 v w bm bn ar bj a c1 ⟨c6,bg,rfl⟩ ⟨F,cs,V,o,rfl,b7,a3,a1⟩ C q;refine cm J (fun⟨_,_,h⟩=>by cases h.1) ?_;refine Ls J q fun a q=>?_;refine wpList_nil ?_;exact⟨rfl,_,⟨c6,bg,rfl,rfl,q.pk J⟩,C⟩
  ·rintro l a7 v ce ca cd w bm bn ar bj E a c1 _ ⟨F,cs,V,o,rfl,b7,a3,a1⟩ ⟨c6,bg,rfl,rfl,q⟩ C;have C: Step ce ca cd w ar (bm::bn::(eO I 101 #[(.slice F bs.length cs)])::V::L):=C;have ey:=Row.cap a3;obtain⟨a5,fb,rfl,d0,f3,d1⟩:=gv bg;rw [bB] at d1;have f8: o.length=bs.length:=by rw [a1,markL_len]
   refine wpIn_block ?_;refine cm J (fun ag=>by obtain⟨_,_,ag⟩:=ag;have ag:=And.left ag;cases ag) ?_;refine lin J (af (v:=(.slice F bs.length cs)) T101 J q J (C.blkL 2 J) J J fun a q=>?_);refine Lm J q fun a q=>?_;obtain⟨bk,dq,dx,d9,ez,c0, -⟩:=a3.at_ (j:=a5) j0;have bq:(F: Option Addr)=some ⟨bk,0,none⟩:=by injection d9
   obtain⟨dj,dc⟩: ∃ x,o[a5]? =some x:=⟨_,List.getElem?_eq_getElem j5⟩;have c0:=c0 0 (.bool dj) j0 (bV dc);refine lin J (aC (b:=bk) (o:=0) (j:=a5) T101.und T4 bq q J J j0 j0 J fun a q=>?_);refine lin J (dl (j:=a5) T4 C (i:=3) J a3 J bq j0 J q J J J J fun bo a w bw f0 C q=>?_);rw [show (Value.cells _).toList= [.bool true] from rfl,ck j5] at bw;refine wpList_nil (ao (?_));have df:(o.set a5 true)=markL bs.length ((blocksS (er bs) xs).take (a7+1)):=by rw [markL_take d0,<- a1]
   exact⟨rfl,ar,((eO I 101 #[(.slice F bs.length cs)])::bo::L),⟨F,cs,bo,(o.set a5 true),rfl,b7,bw,df⟩,C⟩
  ·rintro Z w c9 bj a ⟨F,cs,V,o,rfl,b7,a3,a1⟩ C q;have C:=Step.marks (e:=openBlk Z) (M:= [(eO I 101 #[(.slice F bs.length cs)]),V]) (X:=L) C;obtain⟨Ab,cb,O⟩:=ad.hpa;obtain⟨nn,b8⟩: ∃ dh,bs.length=dh:=⟨_,rfl⟩;rw [b8] at O;obtain⟨G,b3⟩: ∃ dg,markL h.S.length (blocksS h.S xs)=dg:=⟨_,rfl⟩;have a1: G=o:=by rw [a1,<- b3,<- Y,bB,List.take_of_length_le (by unfold BL;rw [List.length_map];exact Nat.le_refl _)]
   subst a1;have f6: G.length=nn:=by rw [<- b3,markL_len,<- Y,bB,b8]
   refine ao (aa (wp_seq ?_));obtain⟨dk,dt,dy,e2,e6,br,ee,ei,eq,eu,em,ea⟩:=O.open_;have C:=Step.castR [(eO I 101 #[(.slice F bs.length cs)]),V,(openBlk Z)] br C;refine ab (Lm J q fun a q=>?_);refine lin J (av q J J fun a q=>?_);refine lin J (ac (f:=2) (o2:=2) T103 T3 J J J J q J J fun a q=>?_);refine lin J (af (v:=(iV h.u)) T3 J q J (C.blkL 3 J) J J fun a q=>?_);refine Ls J q fun a q=>?_;refine wpList_nil (aa (wp_seq (wp_seq (ab (Lm J q fun a q=>?_)))));refine lin J (av q J J fun a q=>?_);refine lin J (ac (f:=0) (o2:=0) T103 T100 J J J J q J J fun a q=>?_);refine lin J (af (v:=(.slice Ab nn cb)) T100 J q J (C.blkL 3 J) J J fun a q=>?_);refine lin J (aI T100.und q J J fun a q=>?_);refine Lm J q fun a q=>?_;refine wpList_nil (aa (wp_block ?_));have C:=Step.castB [(eO I 101 #[(.slice F bs.length cs)]),V,(openBlk Z)] C br;refine a6 (fun di a w=> ∃(k: Nat),∃(a0: BS),∃(a2: List Ent),di=nn - k/\Has ([Z].map markOf) a 65 [(0,(pB p)),(6,(pB I)),(8,(iV h.u)),(39,(.slice Ab nn cb)),(40,(iV ((nn: Nat): Int))),(41,(iV ((k: Nat): Int)))]/\Step w0 H L w c9 ((eO I 101 #[(.slice F bs.length cs)])::V::(openBlk Z)::a2)/\(er a0=(sweepK G h k).S)/\(HPA Ab cb nn p a0 (sweepK G h k).tk (sweepK G h k).u a2)/\(k<=nn)) _ ⟨0,bs,L,rfl,q.pk J,C,Y,O,j0⟩ ?_;intro fa a w cz;obtain⟨k,a0,a2,f7,q,C,a4,O,c1⟩:=cz;refine wp_seq (ab (lin J (bl (i:=((k: Nat): Int)) (j:=((nn: Nat): Int)) q J J J fun a q=>?_)));let T:List Ent:=[(eO I 101 #[(.slice F bs.length cs)]),V,(openBlk Z)];refine wpList_nil (aa (wp_seq (an (t:=42) q J (fun cl q=>?_) (fun cl q=>?_))))
   ·refine ap q J (wp_skip (aa (wp_seq (wp_block (wp_seq ?_)))));obtain⟨dm,du,dz,e3,e7,ax,ef,ej,cq,ev,en,eb⟩:=O.open_;have C:=Step.castR T ax C;refine ab (Lm J q fun a q=>?_);obtain⟨c4,b1,dr,ci,b0,da,cu,cr⟩:=Row.getG bN j4 cq (j:=k) j0;have cn:(Ab: Option Addr)=some ⟨b1,0,none⟩:=by injection da
    refine lin J (aC (b:=b1) (o:=0) (j:=k) T100.und T105 cn q J J j0 j0 J fun a q=>?_);refine lin J (af (v:=(bkv c4)) T105 J q J (C.blkL 4 (b:=b1) (o:=.cells ci 105 (0,0)) (by rw [<- cu];rfl)) (cr 0 _ J) J fun a q=>?_);refine Ls J q fun a q=>?_;refine Ls J q fun a q=>?_;refine wpList_nil (aa (wp_seq (ab (Lm J q fun a q=>?_))))
    rcases c4 with _ | cg
    ·refine lin J (o_ifne0 T105.und q J J fun a q=>?_);refine Lm J q fun a q=>?_;refine Lf J q J J fun a q=>?_;refine Lf J q J J fun a q=>?_;refine Lf J q J J fun a q=>?_;refine Lf J q J J fun a q=>?_;refine Lf J q J J fun a q=>?_;refine lin J (am q J J J fun a q=>?_);refine wpList_nil (aa (ah q J (wp_skip (ao (aa (?_))))));have C:=Step.castB T C ax;refine ab (lin J (aL (i:=((k: Nat): Int)) (j:=1) q J J J j0 fun a q=>?_));refine Lm J q fun a q=>?_;refine wpList_nil (aa (?_));obtain⟨b9,ba,bc⟩:=swp_none a4 b0;exact⟨nn - (k+1),by omega,(k+1),a0,a2,rfl,q.pk J,C,b9,(by rw [ba,bc];exact O),j0⟩
    ·refine lin J (o_ifneB T105.und q J J fun a q=>?_);refine Lm J q fun a q=>?_;refine ae J q J J J (af (v:=(.slice F bs.length cs)) T101 J q J (C.blkL 0 J) J J fun a q=>?_);refine ae J q J J J (aj q J J fun a q=>?_);obtain⟨b2,ds,cj,db,cw,b5, -⟩:=a3.at_ (j:=k) j0;have co:(F: Option Addr)=some ⟨b2,0,none⟩:=by injection db
     obtain⟨c5,bf⟩: ∃ x,G[k]? =some x:=⟨_,List.getElem?_eq_getElem j5⟩;have b5:=b5 0 (.bool c5) j0 (bV bf);refine ae J q J J J (aC (b:=b2) (o:=0) (j:=k) T101.und T4 co q J J j0 j0 J fun a q=>?_);refine ae J q J J J (af (v:=(.bool c5)) T4 J q J (C.blkL 1 (b:=b2) (o:=.cells cj 4 (0,0)) (by rw [<- cw];rfl)) b5 J fun a q=>?_);refine ae J q J J J (aS q J J fun a q=>?_);refine lin J (aq q J J J fun a q=>?_);refine wpList_nil (aa (au (t:=54) q J (fun a9 q=>?_) (fun a9 q=>?_)))
     ·refine ap q J (ab (Lm J q fun a q=>?_));refine Lm J q fun a q=>?_;have C:=Step.castB T C ax;have bv:=cC (L:=G) hO k;have cy: k+cg.2.size<=nn:=by
       have bp:=(bv.blk _ _ (cv a4 b0)).2;rw [<- a4,bB,O.len] at bp;exact bp
      have f9:=bv.u;have d3:=c_clearA (a_:=k) (C.tail T) O J b0 cy j0;refine lin J (Co func58 q J (d3) ?_);rintro e w ⟨cc,fc,rfl, -,cp,b4⟩;refine⟨_,rfl,fun a q=>?_⟩;have C:=C.frameR T b4;have C:=(C.perm List.perm_append_comm).drop.drop.drop.perm List.perm_append_comm;refine wpList_nil (ao (aa (ab (lin J (aL (i:=((k: Nat): Int)) (j:=1) q J J J j0 fun a q=>?_)))));refine Lm J q fun a q=>?_;refine wpList_nil (aa (?_));have ay: G.getD k false=false:=by rw [bls_getD bf];first | simpa using a9 | exact a9
      obtain⟨b9,ba,bc⟩:=swp_off a4 b0 ay;exact⟨nn - (k+1),by omega,(k+1),(a0.set k none),cc,rfl,q.pk J,C,b9,(by rw [<- ba,<- bc];exact cp),j0⟩
     ·refine ah q J (wp_skip (ao (aa (?_))));have C:=Step.castB T C ax;refine ab (lin J (aL (i:=((k: Nat): Int)) (j:=1) q J J J j0 fun a q=>?_));refine Lm J q fun a q=>?_;refine wpList_nil (aa (?_));have ay: G.getD k false=true:=by rw [bls_getD bf];first | simpa using a9 | exact a9
      exact⟨nn - (k+1),by omega,(k+1),a0,a2,rfl,q.pk J,C,(by rw [swp_on ay];exact a4),(by rw [swp_on ay];exact O),j0⟩
   ·refine ah q J (wp_exit (az (az (aN (aa (wp_seq ?_))))));have f1:=(cC (L:=G) hO k).u;have f2:=hO.u;obtain⟨dn,dv,e0,e4,e8,bt,eg,ek,es,ew,eo,ec⟩:=O.open_;have C:=Step.castR T bt C;refine ab (Lm J q fun a q=>?_);refine Lm J q fun a q=>?_;refine lin J (av q J J fun a q=>?_);refine lin J (ac (f:=2) (o2:=2) T103 T3 J J J J q J J fun a q=>?_);refine lin J (af (v:=(iV ((sweepK G h k).u))) T3 J q J (C.blkL 3 J) J J fun a q=>?_);refine lin J (cx (i:=h.u) (j:=((sweepK G h k).u)) q J J J j0 fun a q=>?_);refine Ls J q fun a q=>?_;refine Ls J q fun a q=>?_;refine wpList_nil (aa (wp_ret ?_));obtain rfl: k=nn:=by omega
    have al: allS (er bs) xs=true:=by simpa using h2
    rw [Y] at al;have b6: h.sweep xs=(sweepK G h k,(h.u - (sweepK G h k).u,0)):=by
     unfold HS.sweep;rw [if_neg (by rw [al];simp)];dsimp only;rw [b3,<- Y,bB,b8]
    rw [b6];have C:=Step.castB T C bt;have C:=C.fd [0,0] J;exact retM2 (rs:= [Z]) J (show Step _ _ _ _ _ ([Z].map openBlk++a2) from C) q J J fun w C=>⟨_,_,rfl,⟨a0,a4,O.hp⟩,C⟩
end Go.Vk.Tryz
namespace Go.Vk
def FO (S: PS): Prop:= ∀(j: Nat) s l,S[j]? =some (some (.fn s l))->nmB s=true/\1<=l.length/\l.length<=16
def FOb (b: PB): Prop:= ∀ s l,b=.fn s l->nmB s=true/\1<=l.length/\l.length<=16
theorem FO.new (n: Nat): FO (HS.new n).S:=fun j s l hj=>by
 simp only [HS.new,List.getElem?_replicate] at hj
 split at hj <;> cases hj
theorem FO.set {S: PS} {a: Nat} {c: PB} (h: FO S) (hc: FOb c): FO (S.set a (some c)):=fun j s l hj=>by
 rcases bm hj with ⟨_,e⟩ |⟨_,h4⟩
 ·exact hc s l (Option.some.inj e).symm
 ·exact h j s l h4
theorem FO.del {S: PS} {a: Nat} (h: FO S): FO (S.set a none):=fun j s l hj=>by
 rcases bm hj with ⟨_,e⟩ |⟨_,h4⟩
 ·cases e
 ·exact h j s l h4
theorem FO.place {h: HS} {b: PB} (hf: FO h.S) (hb: FOb b): FO (h.place b).1.S:=by
 unfold HS.place;dsimp only
 split
 ·exact hf
 ·exact hf.set hb
theorem FO.clear {h: HS} {a: Nat} (hf: FO h.S): FO (h.clear a).S:=by
 unfold HS.clear
 split
 ·exact hf.del
 ·exact hf
theorem f9 (to: List Wd) (hk: List Int): FOb (.var to hk):=fun _ _ e=>by cases e
theorem fe (l: List Wd): FOb (.vec l):=fun _ _ e=>by cases e
section
variable {h: HS}
theorem FO.fun_ {s: ByteArray} {l: List Wd} (hf: FO h.S): FO (h.fun_ s l).1.S:=by
 unfold HS.fun_
 split
 ·exact hf
 ·rename_i h1
  split
  ·exact hf
  ·split
   ·exact hf
   ·rename_i h3
    exact hf.place fun s' l' e=>by
     injection e with e1 e2
     subst e1 e2;exact⟨by simpa using h1,by omega,by omega⟩
theorem FO.vec {l: List Wd} (hf: FO h.S): FO (h.vec l).1.S:=by
 unfold HS.vec
 repeat' split
 all_goals first | exact hf | exact hf.place (fe _)
theorem FO.free {w: Wd} (hf: FO h.S): FO (h.free w).1.S:=by
 unfold HS.free
 repeat' split
 all_goals first | exact hf | exact hf.clear
theorem FO.bind {v x: Wd} (hf: FO h.S): FO (h.bind v x).1.S:=by
 unfold HS.bind;dsimp only
 repeat' split
 all_goals first | exact hf | exact hf.set (f9 _ _) | exact(hf.set (f9 _ _)).set (f9 _ _)
theorem FO.update {w x: Wd} {i: Int} (hf: FO h.S): FO (h.update w i x).1.S:=by
 unfold HS.update;dsimp only
 repeat' split
 all_goals first | exact hf | exact hf.set (fe _) | exact(hf.place (fe _)).set (fe _)
theorem FO.reuse {w: Wd} {s: ByteArray} {l: List Wd} (hf: FO h.S): FO (h.reuse w s l).1.S:=by
 unfold HS.reuse
 split
 ·rename_i s0 l0 hb
  have h0:=hf _ _ _ (ar hb).2.2.2.1
  split
  ·exact hf
  ·split
   ·exact hf
   ·rename_i h2
    split
    ·exact hf
    ·split
     ·exact hf
     ·rename_i h4
      exact hf.set fun s' l' e=>by
       injection e with e1 e2
       subst e1 e2;exact⟨by simpa using h2,by omega,by omega⟩
 ·exact hf
end
theorem nxt_word {S: PS} {w z: Wd} (hz: wordS S z=true): wordS S (nxtW w z)=true:=by
 unfold nxtW
 split
 ·rename_i hrf
  unfold wordS at hz ⊢;unfold refB at hrf;simp only [Bool.or_eq_true,decide_eq_true_eq] at hrf;rw [if_neg j0,if_neg j0,if_neg j0] at hz;rw [if_neg (by show ¬ z.tag=1;omega),if_neg (by show ¬ z.tag=2;omega),if_neg (by show ¬ z.tag=3;omega)];exact hz
 ·exact hz
theorem Fol.word {S: PS} (hr: ∀ z ∈ refsOf S,wordS S z=true) {w x: Wd} (h: Fol S w x) (hw: wordS S w=true): wordS S x=true:=by
 induction h with
 | stop _=>exact hw
 | next h _ ih=>exact ih (nxt_word (hr _ (bW.2 ⟨_,_,(ar h).2.2.2.1,List.mem_cons_self⟩)))
theorem nodes_of {Ts: List Tm} (h: ∀ T ∈ Ts,nodesR T=true): nodesRL Ts=true:=by
 induction Ts with
 | nil=>rw [nodesRL]
 | cons T Ts ih=>rw [nodesRL,h T List.mem_cons_self,ih fun t ht=>h t (List.mem_cons_of_mem _ ht)];rfl
theorem RdE.term {h: HS} {ws bs: List Wd} (hd: DI h ws bs) (hf: FO h.S): ∀(d: Nat) (w: Wd) (T: Tm),wordS h.S w=true->RdE h.S d w T->nodesR T=true:=by
 intro d
 induction d with
 | zero=>intro w T hw hr;cases hr
 | succ d ih =>
  intro w T hw hr
  cases hr with
  | int hF ht =>
   have hx:=hF.word hd.rv hw;unfold wordS at hx;rw [if_pos ht] at hx;simp only [Bool.and_eq_true,decide_eq_true_eq] at hx;rw [nodesR,nodesRL,nodeR_k2];simp [hx.1.2,hx.2]
  | atom hF ht =>
   have hx:=hF.word hd.rv hw;unfold wordS at hx;rw [if_neg j0,if_pos ht] at hx;simp only [Bool.and_eq_true] at hx;rw [nodesR,nodesRL,nodeR_k3,fC hx.2];simp
  | str hF ht =>
   have hx:=hF.word hd.rv hw;unfold wordS at hx;rw [if_neg j0,if_neg j0,if_pos ht] at hx;simp only [Bool.and_eq_true,decide_eq_true_eq] at hx;rw [nodesR,nodesRL,nodeR_k4];simp [hx.2]
  | var hF ht =>
   rename_i x hk
   have h1:=(ar ht).1;have h2:=(ar ht).2.1;have h3:=hd.ok.le;have h4:=vr_ok (n:=100000) (i:=x.n) h1 j0 j0;exact(cA (fH h4)).2.2
  | fn hF ht hl hr =>
   rename_i n s ws Ts
   obtain⟨h1,h2,h3⟩:=hf _ _ _ (ar ht).2.2.2.1;rw [nodesR,nodeR_k5,fC h1,nodes_of fun T hT=>by
    obtain⟨i,hi⟩:=List.getElem?_of_mem hT;have hlt:=(List.getElem?_eq_some_iff.1 hi).1;exact ih _ T (hd.rv _ (bW.2 ⟨_,_,(ar ht).2.2.2.1,List.getElem_mem (l:=ws) (hl ▸ hlt)⟩)) (hr i _ T (List.getElem?_eq_getElem (hl ▸ hlt)) hi)]
   rw [hl] at h2 h3;simp;omega
  | vec hF ht hl hr =>
   rename_i n ws Ts
   have h64: _<=64:=(hd.ok.blk _ _ (ar ht).2.2.2.1).1;rw [nodesR,nodeR_k6,nodes_of fun T hT=>by
    obtain⟨i,hi⟩:=List.getElem?_of_mem hT;have hlt:=(List.getElem?_eq_some_iff.1 hi).1;exact ih _ T (hd.rv _ (bW.2 ⟨_,_,(ar ht).2.2.2.1,List.getElem_mem (l:=ws) (hl ▸ hlt)⟩)) (hr i _ T (List.getElem?_eq_getElem (hl ▸ hlt)) hi)]
   have h64: _<=64:=h64;rw [hl] at h64;simp;omega
theorem gE {f: Int->Wd->Int × Option Tm} {d: Nat} (hf: ∀ l r w T,f l w=(r,some T)->(T.sz: Int)=l - r/\dep T<=d): ∀ {ws: List Wd} {l r: Int} {Ts: List Tm},rdL f l ws=(r,some Ts)->(Tm.szL Ts: Int)=l - r/\depL Ts<=d
 | [],l,r,Ts,h=>by
  rw [rdL] at h;injection h with h1 h
  obtain rfl:=Option.some.inj h;rw [Tm.szL,depL];omega
 | w::ws,l,r,Ts,h=>by
  rw [rdL] at h;dsimp only at h
  cases hq: f l w with
  | mk r1 o =>
   rw [hq] at h
   cases o with
   | none=>cases h
   | some T1 =>
    dsimp only at h
    cases hq2: rdL f r1 ws with
    | mk r2 o2 =>
     rw [hq2] at h
     cases o2 with
     | none=>cases h
     | some Us =>
      injection h with h1 h
      obtain rfl:=Option.some.inj h;have h2:=hf _ _ _ _ hq;have h3:=gE hf hq2;have h1: r2=r:=h1;rw [Tm.szL,depL];omega
theorem gK {S: PS}: ∀(d: Nat) (l r: Int) (w: Wd) (T: Tm),rdS S d l w=(r,some T)->(T.sz: Int)=l - r/\dep T<=d
 | 0,l,r,w,T,h=>by rw [rdS] at h;cases h
 | d+1,l,r,w,T,h=>by
  rw [rdS] at h;dsimp only at h
  split at h
  ·cases h
  ·split at h
   ·injection h with h1 h
    obtain rfl:=Option.some.inj h;rw [eX,dr,Tm.szL,depL];omega
   ·split at h
    ·injection h with h1 h
     obtain rfl:=Option.some.inj h;rw [eX,dr,Tm.szL,depL];omega
    ·split at h
     ·injection h with h1 h
      obtain rfl:=Option.some.inj h;rw [eX,dr,Tm.szL,depL];omega
     ·split at h
      ·cases h
      ·injection h with h1 h
       obtain rfl:=Option.some.inj h;rw [eX,dr,Tm.szL,depL];omega
      ·rename_i s ws hb
       cases hq: rdL (rdS S d) (l - 1) ws with
       | mk r2 o2 =>
        rw [hq] at h
        cases o2 with
        | none=>cases h
        | some Ts =>
         injection h with h1 h
         obtain rfl:=Option.some.inj h;have h2:=gE (d:=d) (fun l r w T hw=>gK d l r w T hw) hq;have h1: r2=r:=h1;rw [eX,dr];omega
      ·rename_i ws hb
       cases hq: rdL (rdS S d) (l - 1) ws with
       | mk r2 o2 =>
        rw [hq] at h
        cases o2 with
        | none=>cases h
        | some Ts =>
         injection h with h1 h
         obtain rfl:=Option.some.inj h;have h2:=gE (d:=d) (fun l r w T hw=>gK d l r w T hw) hq;have h1: r2=r:=h1;rw [eX,dr];omega
theorem read_term {h: HS} {ws bs: List Wd} (hd: DI h ws bs) (hf: FO h.S) {w: Wd} {T: Tm} (hr: readS h.S w=(T,0)): isR T=true:=by
 obtain⟨hw,r,h1⟩:=dc.1 hr;have h2:=gK _ _ _ _ _ h1;have h3:=dA h.S 600 4000 w T (by rw [h1]);rw [h1] at h3;have h3: 0<=r/\r < 4000:=h3;exact gA j0 h2.2 (RdE.term hd hf _ _ _ hw (gI _ _ _ _ _ h1))
end Go.Vk
namespace Go.Vk
def Gm (a: Int) (U: Tm) (l: List Tm): Prop:= ∀(i: Nat) u,l[i]? =some u->u=Tm.zero\/u=sbT a U (.mk 1 (i: Int) ⟨#[]⟩ [])
section
variable {a: Int} {U: Tm}
theorem Gm.nil: Gm a U []:=fun i u h=>by simp at h
theorem nodesR_top {p: Tm} (h: nodesR p=true): nodeR p=true:=by
 rw [cB,Bool.and_eq_true] at h;exact h.1
theorem nodesR_sub {p q: Tm} (h: nodesR p=true) {k: Nat} (hq: p.l[k]? =some q): nodesR q=true:=by
 rw [cB,Bool.and_eq_true,dx,List.all_eq_true] at h;exact h.2 q (List.mem_of_getElem? hq)
theorem fD {p: Tm} (h: nodesR p=true) (hk: p.kind=1): 0<=p.n/\p.n < 100000/\p=.mk 1 ((p.n.toNat: Nat): Int) ⟨#[]⟩ []:=by
 obtain⟨h1,h2,h3,h4⟩:=eP (nodesR_top h) hk;refine⟨h1,h2,?_⟩
 cases p with
 | mk k n s l =>
  have hk: k=1:=hk;have h1: 0<=n:=h1;have h3: s=⟨#[]⟩:=h3;have h4: l= []:=h4;subst hk h3 h4
  show Tm.mk 1 n ⟨#[]⟩ []=Tm.mk 1 ((n.toNat: Nat): Int) ⟨#[]⟩ []
  rw [Int.toNat_of_nonneg (a:=n) h1]
theorem Gm.set {l: List Tm} (h: Gm a U l) {p: Tm} (hn: nodesR p=true) (hk: p.kind=1) {t: Tm} (ht: sbT a U p=t): Gm a U (l.set p.n.toNat t):=fun i u hi=>by
 rw [List.getElem?_set] at hi
 split at hi
 ·rename_i e
  split at hi
  ·obtain rfl:=Option.some.inj hi;refine .inr ?_;rw [<- ht,<- e];exact congrArg _ (fD hn hk).2.2
  ·cases hi
 ·exact h i u hi
theorem Gm.get {l: List Tm} (h: Gm a U l) {p: Tm} (hn: nodesR p=true) (hk: p.kind=1) {t u: Tm} (ht: sbT a U p=t) (hx: l[p.n.toNat]? =some u) (hf: freeB u=false): eqT u t=true:=by
 rw [dJ]
 rcases h _ _ hx with e | e
 ·subst e
  cases hf
 ·rw [e,<- ht];exact congrArg _ (fD hn hk).2.2.symm
end
theorem occ_neg: ∀ t: Tm,nodesR t=true->occV (-1) t=false:=by
 refine Tm.ind fun t ih h=>?_;rw [ek,Bool.or_eq_false_iff]
 constructor
 ·by_cases hk: t.kind=1
  ·have h1:=(fD h hk).1;simp;intro _;omega
  ·simp [hk]
 ·rw [List.any_eq_false];intro u hu;obtain⟨i,hi⟩:=List.getElem?_of_mem hu;simp [ih i u hi (nodesR_sub h hi)]
theorem sb_id {T: Tm} (h: isR T=true): ∃(a: Int) (U: Tm),sbT a U T=T:=⟨-1,Tm.zero,fN T (occ_neg T (cA h).2.2)⟩
theorem read_err {S: PS} {w: Wd} (h: wordS S w=true):(readS S w).2=0\/(readS S w).2=2:=by
 unfold readS;rw [if_neg (by rw [h];simp)]
 split
 ·exact .inl J
 ·exact .inr J
section
variable {x: StV} {h h': HS} {ws ws' bs bs': List Wd} {w: Wd}
theorem DI.word (hd: DI h ws bs) (hw: w ∈ ws++bs): wordS h.S w=true:=by
 rcases List.mem_append.1 hw with hw | hw
 ·exact hd.wv w hw
 ·exact co (hd.bv w hw).2.2
theorem SR.binds (hs: SR x (h,ws,bs) (h',ws',bs')) (hd: DI h ws bs) (hf: FO h.S) (hw: w ∈ ws++bs) (hk: ixZ x.kd 9=3) (h1:(readS h.S w).2=0) (h2:(readS h'.S w).2=0): ∃(a: Int) (U: Tm),sbT a U (readS h.S w).1=(readS h'.S w).1:=by
 rcases hs.inst hd hw j0 (Prod.ext rfl h1) (Prod.ext rfl h2) with h3 |⟨_,a,U,_,h3,_⟩
 ·rw [show (readS h'.S w).fst=(readS h.S w).fst from h3];exact sb_id (read_term hd hf (Prod.ext J h1))
 ·exact⟨a,U,h3.symm⟩
end
theorem reads_snoc {f: Wd->Tm} {ws: List Wd} {j: Nat} {w: Wd} {xs: List TV} {x: TV} (h: xs.map TV.t=(ws.take j).map f) (hw: ws[j]? =some w) (hx: x.t=f w):(xs++ [x]).map TV.t=(ws.take (j+1)).map f:=by
 rw [List.map_append,h,List.take_add_one,hw,List.map_append];simp [hx]
theorem oks_snoc {g: Wd->Int} {ws: List Wd} {j: Nat} {w: Wd} (h: ∀ u ∈ ws.take j,g u=0) (hw: ws[j]? =some w) (h0: g w=0): ∀ u ∈ ws.take (j+1),g u=0:=fun u hu=>by
 rw [List.take_add_one,hw,List.mem_append] at hu
 rcases hu with hu | hu
 ·exact h u hu
 ·simp at hu;rw [hu];exact h0
theorem reads_at {f: Wd->Tm} {ws: List Wd} {j: Nat} {w: Wd} {xs: List TV} {x: TV} (h: xs.map TV.t=ws.map f) (hw: ws[j]? =some w) (hx: xs[j]? =some x): x.t=f w:=by
 have h1:=congrArg (fun l=>l[j]?) h;simp only [List.getElem?_map,hw,hx] at h1;exact Option.some.inj h1
end Go.Vk
namespace Go.Vk.Tryz
open Go.RowKit
theorem c_mRead {w0: World} {H: PHeap} {q p: Nat} {ws bs: List Wd} {h: HS} {L: List Ent} (hI: Inv w0 H L) (hM: HM q p ws bs h L) {x: Wd}: Calls prog 16 #[.pointer (some ⟨p,0,none⟩),.agg #[.int .i64 x.tag,.int .i64 x.n,.string x.s,.bool x.one]] w0 (fun e w'=> ∃ H' A c,e=.returned (.tuple #[tv (readS h.S x).1 A c,.int .i64 (readS h.S x).2])/\RowT H' A c (readS h.S x).1.l/\Step w0 H L w' H' L):=by
 obtain⟨C,I,rfl,J,F⟩:=hM;refine Calls.mono (fW (Step.tail C (Step.refl hI)) F) ?_;rintro e w ⟨H',A,c,rfl,hr,G⟩;exact⟨H',A,c,rfl,hr,Step.frameR C (Step.refl hI) G⟩
theorem f5 {w0: World} {H: PHeap} {q p: Nat} {ws bs: List Wd} {h: HS} {L: List Ent} (hI: Inv w0 H L) (hM: HM q p ws bs h L): Calls prog 18 #[.pointer (some ⟨p,0,none⟩)] w0 (fun e w'=>e=.returned (iV h.u)/\Step w0 H L w' H L):=by
 obtain⟨C,I,rfl,J,F⟩:=hM;refine Calls.mono (fX (Step.tail C (Step.refl hI)) F) ?_;rintro e w ⟨rfl,G⟩;exact⟨rfl,Step.frameR C (Step.refl hI) G⟩
theorem c_mLive {w0: World} {H: PHeap} {q p: Nat} {ws bs: List Wd} {h: HS} {L: List Ent} (hI: Inv w0 H L) (hM: HM q p ws bs h L) (hO: h.Ok) {A: Option Addr} {c: Nat} {xs: List Wd} (hr: RowG 4 Wd.cells H A c xs): Calls prog 17 #[.pointer (some ⟨p,0,none⟩),.slice A xs.length c] w0 (fun e w'=> ∃ H' A c en,e=.returned (.tuple #[.slice A (liveL h.S xs).1.length c,.int .i64 (liveL h.S xs).2])/\Row (.slice A (liveL h.S xs).1.length c) en 3 1 (liveL h.S xs).1.length (ints (liveL h.S xs).1)/\Step w0 H L w' H' (en::L)):=by
 obtain⟨C,J,rfl,O,F⟩:=hM;refine Calls.mono (c_Live (Step.tail C (Step.refl hI)) F hO hr) ?_;rintro e w ⟨H',A,c,en,rfl,G,I⟩;exact⟨H',A,c,en,rfl,G,Step.perm (Step.frameR C (Step.refl hI) I) List.perm_middle⟩
theorem fv {w0: World} {H: PHeap} {q p: Nat} {ws bs: List Wd} {h: HS} {L: List Ent} (hI: Inv w0 H L) (hM: HM q p ws bs h L) (hO: h.Ok) {A: Option Addr} {c: Nat} {xs: List Wd} (hr: RowG 4 Wd.cells H A c xs): Calls prog 19 #[.pointer (some ⟨p,0,none⟩),.slice A xs.length c] w0 (fun e w'=> ∃ H' L',e=.returned (.tuple #[.int .i64 (h.sweep xs).2.1,.int .i64 (h.sweep xs).2.2])/\HM q p ws bs (h.sweep xs).1 L'/\Step w0 H L w' H' L'):=by
 obtain⟨C,O,rfl,F,G⟩:=hM;refine Calls.mono (c_Sweep (Step.tail C (Step.refl hI)) G hO hr) ?_;rintro e w ⟨H',L',rfl,I,J⟩;exact⟨H',C++L',rfl,⟨C,L',rfl,F,I⟩,Step.frameR C (Step.refl hI) J⟩
theorem c_sameTerms {w0: World} {H: PHeap} (hI: Inv w0 H []) {ta tb: Tm} {A A': Option Addr} {c c': Nat} (hr: RowT H A c ta.l) (hr': RowT H A' c' tb.l): Calls prog 20 #[(tv ta A c),(tv tb A' c')] w0 (Rs w0 H (.bool (eqT ta tb))):=by
 have C:=Step.refl hI;refine enter [(tv ta A c),(tv tb A' c')] func20 J ntmps20 J fun a q=>?_;refine wp_seq (ab (lin J (aV (cs:=(tA ta A c)) C q J J J fun F a w C q=>?_)));refine lin J (aV (cs:=(tA tb A' c')) C q J J J fun G a w C q=>?_);refine Ls J q fun a q=>?_;refine wpList_nil (aa (wp_seq (ab (lin J (al (vs:=(tL ta A c)) T41 J q J (C.blkL 1 J) J (ag J) J fun a q=>?_)))));refine lin J (al (vs:=(tL tb A' c')) T41 J q J (C.blkL 0 J) J (ag J) J fun a q=>?_);refine lin J (Cs func26 q J (c_Same ta tb _ _ _ _ _ _ hr hr' C.inv.nil) C fun a w q C=>?_);refine Ls J q fun a q=>?_;refine wpList_nil (aa (wp_ret (ret1 J q J ?_)));refine⟨congrArg _ ?_,C.plain.drop_all⟩;rfl
set_option maxHeartbeats 4000000 in
theorem c_HeapSwept {w0: World} {H: PHeap} (hI: Inv w0 H []) {n: Int} {A: Option Addr} {c: Nat} {xs: List StV} (hr: RowG 4 StV.cells H A c xs) {A2: Option Addr} {c2: Nat} {zs: List Int} (hz: RowI H A2 c2 zs): Calls prog 4 #[(iV n),(.slice A xs.length c),(.slice A2 zs.length c2)] w0 (fun e w'=> ∃ H',e=.returned (.bool true)/\Step w0 H [] w' H' []):=by
 have C:=Step.refl hI;have i6:=hr.2.1;have i9:=hz.len;refine enter [(iV n),(.slice A xs.length c),(.slice A2 zs.length c2)] func4 J ntmps4 J fun a q=>?_;refine wp_seq (ab (Ls J q fun a q=>?_));refine wpList_nil (aa (wp_seq (wp_seq (ab ?_))));have g6:=c_sane C.inv.nil;refine lin J (Co func9 q J (g6) ?_);rintro e w ⟨dc,rfl,cw⟩;refine⟨_,rfl,fun a q=>?_⟩;have C:=C.call cw;have hr:=hr.mono cw.le;have hz:=hz.mono cw.le;refine lin J (aS q J J fun a q=>?_);refine wpList_nil (aa (ah q J (wp_skip (aa (wp_seq (wp_seq (ab (Lm J q fun a q=>?_))))))));refine lin J (aI T28.und q J J fun a q=>?_);refine lin J (cT (i:=((xs.length: Nat): Int)) (j:=60) q J J J fun a q=>?_);refine Lm J q fun a q=>?_;refine an (t:=36) q J (fun f4 q=>?_) (fun f4 q=>?_)
 ·refine Lf J q J J fun a q=>?_;refine Lf J q J J fun a q=>?_;refine lin J (aq q J J J fun a q=>?_);refine Lm J q fun a q=>?_;refine Lf J q J J fun a q=>?_;refine Lf J q J J fun a q=>?_;refine lin J (aq q J J J fun a q=>?_);refine Lm J q fun a q=>?_;refine Lf J q J J fun a q=>?_;refine Lf J q J J fun a q=>?_;refine Lf J q J J fun a q=>?_;refine lin J (aq q J J J fun a q=>?_);refine wpList_nil (aa (ap q J (wp_seq (ab (Ls J q fun a q=>?_)))));refine wpList_nil (aa (wp_ret (ai (ret1 J q J ?_))));exact⟨_,rfl,C.drop_all⟩
 ·refine ae J q J J J (aj q J J fun a q=>?_);refine ae J q J J J (cT (i:=n) (j:=2000) q J J J fun a q=>?_);refine lin J (am q J J J fun a q=>?_);refine Lm J q fun a q=>?_;refine an (t:=40) q J (fun f7 q=>?_) (fun f7 q=>?_)
  ·refine Lf J q J J fun a q=>?_;refine Lf J q J J fun a q=>?_;refine lin J (aq q J J J fun a q=>?_);refine Lm J q fun a q=>?_;refine Lf J q J J fun a q=>?_;refine Lf J q J J fun a q=>?_;refine Lf J q J J fun a q=>?_;refine lin J (aq q J J J fun a q=>?_);refine wpList_nil (aa (ap q J (wp_seq (ab (Ls J q fun a q=>?_)))));refine wpList_nil (aa (wp_ret (ai (ret1 J q J ?_))));exact⟨_,rfl,C.drop_all⟩
  ·refine ae J q J J J (aj q J J fun a q=>?_);refine ae J q J J J (bl (i:=n) (j:=16) q J J J fun a q=>?_);refine lin J (am q J J J fun a q=>?_);refine Lm J q fun a q=>?_;refine an (t:=44) q J (fun f9 q=>?_) (fun f9 q=>?_)
   ·refine Lf J q J J fun a q=>?_;refine Lf J q J J fun a q=>?_;refine Lf J q J J fun a q=>?_;refine lin J (aq q J J J fun a q=>?_);refine wpList_nil (aa (ap q J (wp_seq (ab (Ls J q fun a q=>?_)))));refine wpList_nil (aa (wp_ret (ai (ret1 J q J ?_))));exact⟨_,rfl,C.drop_all⟩
   ·refine ae J q J J J (aj q J J fun a q=>?_);refine ae J q J J J (aI T26.und q J J fun a q=>?_);refine ae J q J J J (cT (i:=((zs.length: Nat): Int)) (j:=60) q J J J fun a q=>?_);refine lin J (am q J J J fun a q=>?_);refine wpList_nil (aa (an (t:=48) q J (fun fa q=>?_) (fun fa q=>?_)))
    ·refine ap q J (wp_seq (ab (Ls J q fun a q=>?_)));refine wpList_nil (aa (wp_ret (ai (ret1 J q J ?_))));exact⟨_,rfl,C.drop_all⟩
    ·refine ah q J (wp_skip (aa (wp_seq (ab (Lm J q fun a q=>?_)))));have gc:=c_begun (n:=n) C.inv.nil j0;refine lin J (Co func12 q J (gc) ?_);rintro e w ⟨a3,b6,ep,rfl,fk,g2⟩;refine⟨_,rfl,fun a q=>?_⟩;have C:=(Step.frame (Lc:= []) (R:= []) C g2).perm List.perm_append_comm;refine Ls J q fun a q=>?_;refine wpList_nil (aa (wp_seq (wp_seq (ab (Lm J q fun a q=>?_)))));refine lin J (aW T29.und T46 q J J J fun a q=>?_);refine wpList_nil (aa (ah q J (wp_skip (aa (wp_seq (wp_seq (ab (Lm J q fun a q=>?_))))))));refine lin J (aI T28.und q J J fun a q=>?_);refine Lm J q fun a q=>?_;refine wpList_nil (aa (wp_block (a6 (fun c8 a w=> ∃(ch: PHeap),∃(k: Nat),∃(F: HS),∃(ws: List Wd),∃(bs: List Wd),∃(b4: List Ent),Le dc ch/\c8=xs.length - k/\Has [] a 231 [(2,(.slice A2 zs.length c2)),(7,(pB a3)),(53,(.slice A xs.length c)),(54,(iV ((xs.length: Nat): Int))),(55,(iV ((k: Nat): Int)))]/\Step w0 H [] w ch (b4)/\(HM a3 b6 ws bs F b4)/\(DI F ws bs)/\(ws.length<=130 * k)/\(bs.length<=k)/\(k<=xs.length)) _ ⟨dc,0,(HS.new (Int.toNat n)), [], [],ep,Le.refl _,rfl,q.pk J,C,fk,(DI.new j0),j3,j3,j0⟩ ?_)));intro ir a w F;obtain⟨ch,k,F,ws,bs,b4,d3,ie,q,C,b8,bf,gg,i4,i2⟩:=F;have hr:=hr.mono d3;have hz:=hz.mono d3;refine wp_seq (ab (lin J (bl (i:=((k: Nat): Int)) (j:=((xs.length: Nat): Int)) q J J J fun a q=>?_)));refine wpList_nil (aa (wp_seq (an (t:=56) q J (fun f0 q=>?_) (fun f0 q=>?_))))
     ·refine ap q J (wp_skip (aa (wp_seq (wp_block (wp_seq (ab ?_))))));obtain⟨a9,eq,gs,hh,hb,hm,ik,fb,fo,ft⟩:=hr.get (j:=k) j5;refine lin J (aC (b:=eq) (o:=gs) (j:=k) T28.und T32 fb q J J j0 j0 J fun a q=>?_);refine lin J (al (vs:= [(iV a9.kd),(iV a9.a),(iV a9.b),(iV a9.c)]) T32 J q J (C.blkH fo) J ft J fun a q=>?_);refine lin J (aE (cs:= #[(iV 0),(iV 0),(iV 0),(iV 0)]) T32 C q J J fun dk a w C q=>?_);refine lin J (ak (cs':= #[(iV a9.kd),(iV a9.a),(iV a9.b),(iV a9.c)]) T32 C (i:=0) J q J J J J J J fun a w C q=>?_);refine wpList_nil (aa (ab (Lm J q fun a q=>?_)));refine lin J (al (vs:= [(iV a9.kd),(iV a9.a),(iV a9.b),(iV a9.c)]) T32 J q J (C.blkL 0 J) J (ag J) J fun a q=>?_);have g5:=c_step (C.tail [(eO dk 32 #[(iV a9.kd),(iV a9.a),(iV a9.b),(iV a9.c)])]) b8 (x:=a9) bf j0 j0;refine lin J (Co func13 q J (g5) ?_);rintro e w ⟨f1,gx,eu,el,em,gm,i8,i5,fi,rfl,du⟩;refine⟨_,rfl,fun a q=>?_⟩;have C:=C.frameR [(eO dk 32 #[(iV a9.kd),(iV a9.a),(iV a9.b),(iV a9.c)])] du;have dn:=gm.di bf;have hx:=dn.audit;refine wpList_nil (ao (aa (ab (lin J (aL (i:=((k: Nat): Int)) (j:=1) q J J J j0 fun a q=>?_)))));refine Lm J q fun a q=>?_;refine wpList_nil (aa (?_));have C:=C.drop;exact⟨xs.length - (k+1),by omega,el,(k+1),f1,gx,eu,em,(d3.trans (du.le)),rfl,q.pk J,C,fi,dn,j0,j0,j0⟩
     ·refine ah q J (wp_exit (az (az (aN (aa (wp_seq (wp_seq (ab (Lm J q fun a q=>?_)))))))));refine lin J (aI T26.und q J J fun a q=>?_);refine Lm J q fun a q=>?_;refine wpList_nil (aa (wp_block (a6 (fun c8 a w=> ∃(kd: Nat),∃(ws: List Wd),∃(b4: List Ent),c8=zs.length - kd/\Has [] a 231 [(7,(pB a3)),(63,(.slice A2 zs.length c2)),(64,(iV ((zs.length: Nat): Int))),(65,(iV ((kd: Nat): Int)))]/\Step w0 H [] w ch (b4)/\(HM a3 b6 ws bs F b4)/\(DI F ws bs)/\(ws.length<=7800)/\(kd<=zs.length)) _ ⟨0,ws,b4,rfl,q.pk J,C,b8,bf,j0,j0⟩ ?_)));intro io a w F;obtain⟨kd,ws,b4,ia,q,C,b8,bf,gg,i3⟩:=F;refine wp_seq (ab (lin J (bl (i:=((kd: Nat): Int)) (j:=((zs.length: Nat): Int)) q J J J fun a q=>?_)));refine wpList_nil (aa (wp_seq (an (t:=66) q J (fun f2 q=>?_) (fun f2 q=>?_))))
      ·refine ap q J (wp_skip (aa (wp_seq (wp_block (wp_seq (ab ?_))))));obtain⟨da,er,gt,hi,hc,hn,im,fc,fp,fu⟩:=hz.get (j:=kd) j0;refine lin J (aC (b:=er) (o:=gt) (j:=kd) T26.und T3 fc q J J j0 j0 J fun a q=>?_);refine lin J (af (v:=(iV da)) T3 J q J (C.blkH fp) (by rw [Nat.mul_one];exact fu) J fun a q=>?_);refine Ls J q fun a q=>?_;refine wpList_nil (aa (ab (Lm J q fun a q=>?_)));refine Lm J q fun a q=>?_;obtain⟨⟨iu,gy⟩,cy⟩: ∃ r_,takeP ws da=r_:=⟨_,rfl⟩;have g7:=bS (C.tail []) b8 j0 j0 cy;refine lin J (Co func14 q J (g7) ?_);rintro e w ⟨eo,rfl,fj,fw⟩;refine⟨_,rfl,fun a q=>?_⟩;have C:=C.frameR [] fw;have eg:=bw ws da;rw [cy] at eg;have fh:=(bf.tk cy).tail;dsimp only at eg;refine wpList_nil (ao (aa (ab (lin J (aL (i:=((kd: Nat): Int)) (j:=1) q J J J j0 fun a q=>?_)))));refine Lm J q fun a q=>?_;refine wpList_nil (aa (?_));exact⟨zs.length - (kd+1),by omega,(kd+1),gy,eo,rfl,q.pk J,C,fj,fh,j0,j0⟩
      ·refine ah q J (wp_exit (az (az (aN (aa (wp_seq (ab (Lm J q fun a q=>?_))))))));have g8:=c_mall (C.tail []) b8 j0 j0;refine lin J (Co func15 q J (g8) ?_);rintro e w ⟨df,bh,bi,rfl,b3,dv⟩;refine⟨_,rfl,fun a q=>?_⟩;have C:=C.frameR [] dv;have hr:=hr.mono dv.le;refine Ls J q fun a q=>?_;refine wpList_nil (aa (wp_seq (ab (Ls J q fun a q=>?_))));refine wpList_nil (aa (wp_seq (wp_seq (ab (Lm J q fun a q=>?_)))));refine lin J (aI T37.und q J J fun a q=>?_);refine Lm J q fun a q=>?_;refine wpList_nil (aa (wp_block ?_));have ig:(ws++bs).length=ws.length+bs.length:=List.length_append;have C:=C.cons_none (en:=noEnt) J;refine a6 (fun c8 a w=> ∃(c9: PHeap),∃(j: Nat),∃(aw: List TV),∃(T: Ent),∃(bp: Option Addr),∃(c3: Nat),Le df c9/\c8=(ws++bs).length - j/\Has [] a 231 [(7,(pB a3)),(12,(.slice bh ((ws++bs).length) bi)),(13,(.slice bp aw.length c3)),(75,(.slice bh ((ws++bs).length) bi)),(76,(iV (((ws++bs).length: Nat): Int))),(77,(iV ((j: Nat): Int)))]/\Step w0 H [] w c9 (T::b4)/\(Row (.slice bp aw.length c3) T 41 4 aw.length (flat aw))/\(AllR c9 aw)/\(aw.map TV.t=((ws++bs).take j).map (fun w=>(readS (HS.S F) w).1))/\(∀ u ∈(ws++bs).take j,(readS (HS.S F) u).2=0)/\(j<=(ws++bs).length)/\(aw.length=j)) _ ⟨df,0, [],noEnt,none,0,Le.refl _,rfl,q.pk J,C,(Row.nil _ _),(AllR.nil _),rfl,(fun u hu=>by simp at hu),j0,rfl⟩ ?_;intro ip a w F;obtain⟨c9,j,aw,T,bp,c3,d0,ib,q,C,ct,b5,cu,cv,i0,gr⟩:=F;have hr:=hr.mono d0;have b3:=b3.mono d0;have hy:=Row.cap ct;refine wp_seq (ab (lin J (bl (i:=((j: Nat): Int)) (j:=(((ws++bs).length: Nat): Int)) q J J J fun a q=>?_)));refine wpList_nil (aa (wp_seq (an (t:=78) q J (fun f3 q=>?_) (fun f3 q=>?_))))
       ·refine ap q J (wp_skip (aa (wp_seq (wp_block (wp_seq (ab ?_))))));obtain⟨X,es,gu,hj,hd,hp,d5,fe,fq,fx⟩:=b3.get (j:=j) j5;refine lin J (aC (b:=es) (o:=gu) (j:=j) T37.und T35 fe q J J j0 j0 J fun a q=>?_);refine lin J (al (vs:=(wL X)) T35 J q J (C.blkH fq) J fx J fun a q=>?_);refine lin J (aE (cs:= #[(iV 0),(iV 0),(.string (⟨#[]⟩)),(.bool false)]) T35 C q J J fun cp a w C q=>?_);refine lin J (ak (cs':=(wA X)) T35 C (i:=0) J q J J J J J J fun a w C q=>?_);refine wpList_nil (aa (wp_seq ?_));have dr:=C;let c0:=(eO cp 35 (wA X));refine As.c_draw_head (ini:=(As.il [])) (sup:=(As.sl [(9,10)])) (als:= [9,10]) (s0:=⟨c9,fun _=>none⟩) (L:=(c0::T::b4)) (N:=231) (E:= [(7,(pB a3)),(12,(.slice bh ((ws++bs).length) bi)),(13,(.slice bp aw.length c3)),(15,(pB cp)),(75,(.slice bh ((ws++bs).length) bi)),(76,(iV (((ws++bs).length: Nat): Int))),(77,(iV ((j: Nat): Int)))]) 11 [FcV (pB a3),FcV (pB a3),FcV (pB a3),FcV (pB b6),FcV (.agg (wA X)),As.lf (fun H v=> ∃ A c,v=(.tuple #[(tv ((readS (HS.S F) X).1) A c),(iV ((readS (HS.S F) X).2))])/\RowT H A c ((readS (HS.S F) X).1.l)),As.lf (fun H v=> ∃ A c,v=(.tuple #[(tv ((readS (HS.S F) X).1) A c),(iV ((readS (HS.S F) X).2))])/\RowT H A c ((readS (HS.S F) X).1.l)),As.lf (fun H v=> ∃ A c,v=(tv ((readS (HS.S F) X).1) A c)/\RowT H A c ((readS (HS.S F) X).1.l)),FcV (iV ((readS (HS.S F) X).2)),fun s v=> ∃ b,s.ax 9=some [(some b,(.cells aZ 41 (0,0)))]/\v=.pointer (some ⟨b,0,none⟩),fun s _=> ∃(b: Nat) (A: Option Addr) (c: Nat),s.ax 9=some [(some b,(.cells aZ 41 (0,0)))]/\s.ax 10=some [(eO b 41 (tA ((readS (HS.S F) X).1) A c))]/\RowT s.H A c ((readS (HS.S F) X).1.l)] mixed j1 j1 j1 j9 (fun _=>rfl) C (q.pk J) (As.QuietsI.c4 ?_ ?_ ?_ ?_ (As.QuietsI.c4 ?_ ?_ ?_ ?_ (As.QuietsI.c2 ?_ ?_ (As.QuietsI.cons ?_ (As.QuietsI.nil))))) (fun ey a w d9 a2 C q bg=>?_)
        ·refine As.Qx J fun a w O G Y a1 C q I a2=>?_;have Z:=C;exact aj q J J fun a q=>As.ql q Z
        ·refine As.Qx1 0 J fun a w O G Y a1 C q I a2=>?_;have Z:=C;exact av q J J fun a q=>As.ql q Z
        ·refine As.Qx1 1 J fun a w O G Y a1 C q I a2=>?_;have Z:=C;exact ac (f:=0) (o2:=0) T46 T44 J J J J q J J fun a q=>As.ql q Z
        ·refine As.Qx1 2 J fun a w O G Y a1 C q I a2=>?_;have Z:=C;have C:=Step.dropN _ _ C;obtain⟨bm,bx,bq,bo,bz,br,au⟩:=HM.blk b8;have ar:=C.inv.own _ (a7 [c0,T] au) a3 J;exact af (v:=(pB b6)) T44 J q J ar J J fun a q=>As.ql q Z
        ·refine As.Qx J fun a w O G Y a1 C q I a2=>?_;have Z:=C;have C:=Step.dropN _ _ C;exact al (vs:=(wL X)) T35 J q J (C.blkL 0 J) J (ag J) J fun a q=>As.ql q Z
        ·refine As.Qx1 3 J fun a w O G Y a1 C q I a2=>?_;obtain⟨_,q,rfl⟩:=I.g q 4 J;have Z:=C;have fn:=Step.dropN _ _ C;have C:=Step.perm C (List.Perm.of_eq (List.append_assoc (As.aents (As.il []) (As.sl [(9,10)]) [9,10] G) [c0,T] b4).symm);have g9:=c_mRead (C.tail ((As.aents (As.il []) (As.sl [(9,10)]) [9,10] G)++ [c0,T])) b8 (x:=X);refine id (Co func16 q J (g9) ?_);rintro e w ⟨gz,a5,a8,rfl,ba,dw⟩;refine⟨_,rfl,fun a q=>?_⟩;have C:=C.frameR ((As.aents (As.il []) (As.sl [(9,10)]) [9,10] G)++ [c0,T]) dw;have C:=Step.perm C (List.Perm.of_eq (List.append_assoc (As.aents (As.il []) (As.sl [(9,10)]) [9,10] G) [c0,T] b4));exact As.qdone (s:=⟨O,G⟩) dw.le q C ⟨a5,a8,rfl,ba⟩
        ·refine As.Qx J fun a w O G Y a1 C q I a2=>?_;obtain⟨_,q,a5,a8,rfl,ba⟩:=I.g q 5 J;have Z:=C;refine id (aj q J J fun a q=>?_);exact As.qdone (s:=⟨O,G⟩) (Le.refl _) q Z ⟨a5,a8,rfl,ba⟩
        ·refine As.Qx J fun a w O G Y a1 C q I a2=>?_;obtain⟨_,q,a5,a8,rfl,ba⟩:=I.g q 6 J;have Z:=C;refine id (ad (v:=(tv ((readS (HS.S F) X).1) a5 a8)) q J J J fun a q=>?_);exact As.qdone (s:=⟨O,G⟩) (Le.refl _) q Z ⟨a5,a8,rfl,ba⟩
        ·refine As.Qx J fun a w O G Y a1 C q I a2=>?_;obtain⟨_,q,a5,a8,rfl,ba⟩:=I.g q 6 J;have Z:=C;exact ad (v:=(iV ((readS (HS.S F) X).2))) q J J J fun a q=>As.ql q Z
        ·refine As.Qx J fun a w O G Y a1 C q I a2=>?_;have C: Step w0 H [] w O ((As.aents (As.il []) (As.sl [(9,10)]) [] G++As.aents (As.il []) (As.sl [(9,10)]) [10] G++(c0::T::b4))):=As.opn (s:=⟨O,G⟩) [] [9] [10] [] J (As.con0 a1 J) C;refine aE (cs:=aZ) T41 C q J J fun bc a w C q=>?_;exact As.qown (i:=9) (dst:=some 16) (s:=⟨O,G⟩) (E:= [(some bc,(.cells aZ 41 (0,0)))]) [] [9] [10] J J a1 (Le.refl _) q.dfr (As.has_at q) C As.con1 ⟨bc,rfl,rfl⟩
        ·refine As.Qx J fun a w O G Y a1 C q I a2=>?_;obtain⟨_,q,bc,bu,rfl⟩:=I.g q 9 J;have bu: G 9=some [(some bc,(.cells aZ 41 (0,0)))]:=bu;obtain⟨_,q,a5,a8,rfl,ba⟩:=I.g q 7 J;have C: Step w0 H [] w O ((some bc,(.cells aZ 41 (0,0)))::(As.aents (As.il []) (As.sl [(9,10)]) [] G++As.aents (As.il []) (As.sl [(9,10)]) [] G++(c0::T::b4))):=As.opn (s:=⟨O,G⟩) [] [9,10] [] [(some bc,(.cells aZ 41 (0,0)))] J (As.con2 J J J bu a1) C;refine id (ak (cs':=(tA ((readS (HS.S F) X).1) a5 a8)) T41 C (i:=0) J q J J J J J J fun a w C q=>?_);exact As.qown (i:=10) (dst:=none) (s:=⟨O,G⟩) (E:= [(eO bc 41 (tA ((readS (HS.S F) X).1) a5 a8))]) [] [9,10] [] J J a1 (Le.refl _) q.dfr (v:=undef) (fun _ h=>by cases h) C (.inl (As.con2' J J)) ⟨bc,a5,a8,bu,rfl,ba⟩
        obtain⟨dg,G⟩:=d9;have ed: Le c9 dg:=a2.le;dsimp only at bg C;have b5:=b5.mono ed;obtain⟨_,q,rfl⟩:=As.Dd q bg 8 J;obtain⟨_,q,bc,bu,rfl⟩:=As.Dd q bg 9 J;have bu: G 9=some [(some bc,(.cells aZ 41 (0,0)))]:=bu;obtain⟨_,gp,ei,a5,a8,gj,d7,ba⟩:=bg 10 _ _ J J;have d7: G 10=some [(eO ei 41 (tA ((readS (HS.S F) X).1) a5 a8))]:=d7;obtain rfl: bc=ei:=by have b9:=(bu).symm.trans gj;simpa using b9
        have C: Step w0 H [] w dg ((eO bc 41 (tA ((readS (HS.S F) X).1) a5 a8))::(eO cp 35 (wA X))::T::b4):=by
         have b9:=C;unfold As.aents at b9;simp only [List.flatMap_cons,List.flatMap_nil,As.conE,show (As.sl [(9,10)]) 9=some 10 from rfl,show (As.sl [(9,10)]) 10=none from rfl,bu,d7,Option.isSome_some,Option.getD_some,cond_true,cond_false,List.cons_append,List.nil_append,List.append_nil] at b9;exact b9
        refine any1 (i:=11) j1 J J (aH q J J fun a q=>?_);refine any0 j1 ?_;refine aa (wp_seq (wp_seq (ab (Lm J q fun a q=>?_))));refine lin J (bE (i:=((readS (HS.S F) X).2)) (j:=0) q J J J fun a q=>?_);refine wpList_nil (aa (aQ (t:=91) q J (fun f6 q=>?_) (fun f6 q=>?_)))
        ·refine ap q J (wp_seq (ab (Lm J q fun a q=>?_)));refine lin J (bn (i:=((readS (HS.S F) X).2)) (j:=2) q J J J fun a q=>?_);refine Ls J q fun a q=>?_;refine wpList_nil (aa (wp_ret (ai (aA (ai (ai (aA (ai (ret1 J q J ?_)))))))));rw [show (decide (((readS (HS.S F) X).2)=2))=true from decide_eq_true ((read_err (bf.word (List.mem_of_getElem? d5))).resolve_left (by assumption))];exact⟨_,rfl,C.drop_all⟩
        ·refine ah q J (wp_skip (aa (ab (Lm J q fun a q=>?_))));refine lin J (al (vs:=(tL ((readS (HS.S F) X).1) a5 a8)) T41 J q J (C.blkL 0 J) J (ag J) J fun a q=>?_);refine lin J (aY (vs:= [(0,(tv ((readS (HS.S F) X).1) a5 a8))]) (cells:=(tL ((readS (HS.S F) X).1) a5 a8)) T39.und T41 C q (q.evp J) J J J J fun dl a w C q=>?_);obtain⟨dh,C,d1,ds⟩:=C.give;have b5:=b5.mono d1;have ba:=ba.mono d1;have ih: RowT dh (some ⟨dl,0,none⟩) 1 [(readS (HS.S F) X).1]:=RowT.of_lit ([⟨(readS (HS.S F) X).1,a5,a8⟩]: List TV) ds (AllR.cons ba (AllR.nil _)) j3 J;have C:=C.front 2 J;refine lin J (aJ (news:=(flat ([⟨(readS (HS.S F) X).1,a5,a8⟩]: List TV))) (xs:=(flat aw)) T39.und T41 J J C ct q J J J (fun _=>⟨dl,0,_,_,_,rfl,C.blkH ds,ag J⟩) (dG J) j0 J J fun it ex a w cd C q=>?_);rw [<- dt] at cd;obtain⟨cn,cr,rfl⟩:=cd.slice;have ef:(aw.length+1)=(aw++([⟨(readS (HS.S F) X).1,a5,a8⟩]: List TV)).length:=by have b9:=cd.1;rw [bL] at b9;omega
         rw [show Value.slice cn (aw.length+1) cr=Value.slice cn (aw++([⟨(readS (HS.S F) X).1,a5,a8⟩]: List TV)).length cr from by rw [ef]] at q;rw [ef] at cd;refine Ls J q fun a q=>?_;refine wpList_nil (ao (aa (ab (lin J (aL (i:=((j: Nat): Int)) (j:=1) q J J J j0 fun a q=>?_)))));refine Lm J q fun a q=>?_;refine wpList_nil (aa (?_));have C:=C.fd [2,0,2,0] J;exact⟨(ws++bs).length - (j+1),by omega,dh,(j+1),(aw++([⟨(readS (HS.S F) X).1,a5,a8⟩]: List TV)),ex,cn,cr,(d0.trans (ed.trans (d1))),rfl,q.pk J,C,cd,(AllR.append b5 (AllR.cons ba (AllR.nil _))),(reads_snoc cu d5 J),(oks_snoc cv d5 j0),j0,(by rw [List.length_append,gr];rfl)⟩
       ·refine ah q J (wp_exit (az (az (aN (aa (wp_seq ?_))))));rw [List.take_of_length_le j0] at cu cv;have ce: allS F.S (ws++bs)=true:=List.all_eq_true.2 fun w gq=>bf.word gq;obtain⟨a4,cz⟩: ∃ cf,(F.sweep (ws++bs)).1=cf:=⟨_,rfl⟩;have gn: F.sweep (ws++bs)=(a4,(HS.u F - HS.u a4,0)):=Prod.ext cz (by rw [(bZ ce).2,cz]);obtain⟨ec,e0,e1,e2⟩:=sweep_keeps ce;have ca:=sweep_ok bf.ok ce;have g4:=sweep_u ce;rw [cz] at ec e0 e1 e2 ca g4;obtain⟨ee,gh⟩:=sweep_nil ca;obtain⟨ez,dz⟩: ∃ cf,(a4.sweep []).1=cf:=⟨_,rfl⟩;rw [dz] at ee;have gl: a4.sweep []=(ez,(HS.u a4,0)):=Prod.ext dz gh;obtain⟨bk,d4⟩: ∃ cf,srtI (BL F.S (ws++bs))=cf:=⟨_,rfl⟩;have gd: liveL F.S (ws++bs)=(bk,0):=by unfold liveL;rw [if_neg (by rw [ce];simp),d4]
        have ge: liveL a4.S (ws++bs)=(bk,0):=by unfold liveL;rw [if_neg (by rw [e0];simp),show BL a4.S (ws++bs)=BL F.S (ws++bs) by unfold BL;rw [e1],d4]
        have ii:=bf.ok.u;have ij:=ca.u;have i7: bk.length<=65536:=by
         have hv:=fV (S:=F.S) (roots:=(ws++bs));have hw:=bf.ok.le;rw [<- d4,cV];omega
        refine ab (Lm J q fun a q=>?_);refine lin J (av q J J fun a q=>?_);refine lin J (ac (f:=0) (o2:=0) T46 T44 J J J J q J J fun a q=>?_);obtain⟨bm,bx,bq,bo,bz,br,au⟩:=HM.blk b8;have ar:=C.inv.own _ (a7 [T] au) a3 J;refine lin J (af (v:=(pB b6)) T44 J q J ar J J fun a q=>?_);refine Lm J q fun a q=>?_;have e3:=c_mLive (C.tail [T]) b8 bf.ok b3;rw [gd] at e3;refine lin J (Co func17 q J (e3) ?_);rintro e w ⟨h0,cg,cj,a0,rfl,fl,ck⟩;refine⟨_,rfl,fun a q=>?_⟩;have C:=Step.perm (C.frameR [T] ck) List.perm_middle;have hr:=hr.mono ck.le;have b3:=b3.mono ck.le;have b5:=b5.mono ck.le;refine Lm J q fun a q=>?_;refine lin J (ad (v:=(.slice cg bk.length cj)) q J J J fun a q=>?_);refine lin J (ad (v:=(iV 0)) q J J J fun a q=>?_);refine Ls J q fun a q=>?_;refine Ls J q fun a q=>?_;refine wpList_nil (aa (wp_seq (ab (Lm J q fun a q=>?_))));refine lin J (av q J J fun a q=>?_);refine lin J (ac (f:=0) (o2:=0) T46 T44 J J J J q J J fun a q=>?_);obtain⟨bm,bx,bq,bo,bz,br,au⟩:=HM.blk b8;have ar:=C.inv.own _ (a7 [a0,T] au) a3 J;refine lin J (af (v:=(pB b6)) T44 J q J ar J J fun a q=>?_);have ga:=f5 (C.tail [a0,T]) b8;refine lin J (Co func18 q J (ga) ?_);rintro e w ⟨rfl,c7⟩;refine⟨_,rfl,fun a q=>?_⟩;have C:=C.frameR [a0,T] c7;refine Ls J q fun a q=>?_;refine wpList_nil (aa (wp_seq (ab (Lm J q fun a q=>?_))));refine lin J (av q J J fun a q=>?_);refine lin J (ac (f:=0) (o2:=0) T46 T44 J J J J q J J fun a q=>?_);obtain⟨bm,bx,bq,bo,bz,br,au⟩:=HM.blk b8;have ar:=C.inv.own _ (a7 [a0,T] au) a3 J;refine lin J (af (v:=(pB b6)) T44 J q J ar J J fun a q=>?_);refine Lm J q fun a q=>?_;have e4:=fv (C.tail [a0,T]) b8 bf.ok b3;rw [gn] at e4;refine lin J (Co func19 q J (e4) ?_);rintro e w ⟨dj,c6,rfl,c5,cl⟩;refine⟨_,rfl,fun a q=>?_⟩;have C:=C.frameR [a0,T] cl;have hr:=hr.mono cl.le;have b3:=b3.mono cl.le;have b5:=b5.mono cl.le;refine Lm J q fun a q=>?_;refine lin J (ad (v:=(iV (HS.u F - HS.u a4))) q J J J fun a q=>?_);refine lin J (ad (v:=(iV 0)) q J J J fun a q=>?_);refine Ls J q fun a q=>?_;refine Ls J q fun a q=>?_;refine wpList_nil (aa (wp_seq (wp_seq (ab (Lm J q fun a q=>?_)))));refine lin J (bE (i:=0) (j:=0) q J J J fun a q=>?_);refine Lm J q fun a q=>?_;refine ae J q J J J (aj q J J fun a q=>?_);refine ae J q J J J (bE (i:=0) (j:=0) q J J J fun a q=>?_);refine lin J (am q J J J fun a q=>?_);refine Lm J q fun a q=>?_;refine ae J q J J J (aj q J J fun a q=>?_);refine ae J q J J J (bl (i:=(HS.u F - HS.u a4)) (j:=0) q J J J fun a q=>?_);rw [show (decide ((HS.u F - HS.u a4) < 0))=false from by simp;omega] at q;refine lin J (am q J J J fun a q=>?_);refine Lm J q fun a q=>?_;refine ae J q J J J (aj q J J fun a q=>?_);refine ae J q J J J (av q J J fun a q=>?_);refine ae J q J J J (ac (f:=0) (o2:=0) T46 T44 J J J J q J J fun a q=>?_);obtain⟨bm,bx,bq,bo,bz,br,au⟩:=HM.blk c5;have ar:=C.inv.own _ (a7 [a0,T] au) a3 J;refine ae J q J J J (af (v:=(pB b6)) T44 J q J ar J J fun a q=>?_);have gb:=f5 (C.tail [a0,T]) c5;refine ae J q J J J (Co func18 q J (gb) ?_);rintro e w ⟨rfl,c7⟩;refine⟨_,rfl,fun a q=>?_⟩;have C:=C.frameR [a0,T] c7;refine ae J q J J J (aj q J J fun a q=>?_);refine ae J q J J J (aj q J J fun a q=>?_);refine ae J q J J J (cx (i:=(HS.u F)) (j:=(HS.u F - HS.u a4)) q J J J j0 fun a q=>?_);refine ae J q J J J (bE (i:=(HS.u a4)) (j:=((HS.u F) - (HS.u F - HS.u a4))) q J J J fun a q=>?_);rw [show (!decide ((HS.u a4)=((HS.u F) - (HS.u F - HS.u a4))))=false from by simp;omega] at q;refine lin J (am q J J J fun a q=>?_);refine wpList_nil (aa (ah q J (wp_skip (aa (wp_seq (wp_seq (ab (Lm J q fun a q=>?_))))))));refine lin J (aI T37.und q J J fun a q=>?_);refine Lm J q fun a q=>?_;refine wpList_nil (aa (wp_block (a6 (fun c8 a w=> ∃(cc: PHeap),∃(ay: Nat),Le dj cc/\c8=(ws++bs).length - ay/\Has [] a 231 [(7,(pB a3)),(12,(.slice bh ((ws++bs).length) bi)),(13,(.slice bp aw.length c3)),(18,(.slice cg bk.length cj)),(20,(iV (HS.u F))),(21,(iV (HS.u F - HS.u a4))),(143,(.slice bh ((ws++bs).length) bi)),(144,(iV (((ws++bs).length: Nat): Int))),(145,(iV ((ay: Nat): Int)))]/\Step w0 H [] w cc (a0::T::c6)/\(ay<=(ws++bs).length)) _ ⟨dj,0,Le.refl _,rfl,q.pk J,C,j0⟩ ?_)));intro iq a w F;obtain⟨cc,ay,cm,ic,q,C,i1⟩:=F;have hr:=hr.mono cm;have b3:=b3.mono cm;have b5:=b5.mono cm;refine wp_seq (ab (lin J (bl (i:=((ay: Nat): Int)) (j:=(((ws++bs).length: Nat): Int)) q J J J fun a q=>?_)));refine wpList_nil (aa (wp_seq (an (t:=146) q J (fun f8 q=>?_) (fun f8 q=>?_))))
        ·refine ap q J (wp_skip (aa (wp_seq (wp_block (wp_seq (ab (Lm J q fun a q=>?_)))))));obtain⟨V,et,gv,hk,hg,hq,d6,ff,fr,fy⟩:=b3.get (j:=ay) j5;refine lin J (aC (b:=et) (o:=gv) (j:=ay) T37.und T35 ff q J J j0 j0 J fun a q=>?_);refine lin J (al (vs:=(wL V)) T35 J q J (C.blkH fr) J fy J fun a q=>?_);refine lin J (aE (cs:= #[(iV 0),(iV 0),(.string (⟨#[]⟩)),(.bool false)]) T35 C q J J fun cq a w C q=>?_);refine Ls J q fun a q=>?_;refine lin J (ak (cs':=(wA V)) T35 C (i:=0) J q J J J J J J fun a w C q=>?_);refine wpList_nil (aa (wp_seq ?_));have dr:=C;let c1:=(eO cq 35 (wA V));refine As.c_draw_head (ini:=(As.il [])) (sup:=(As.sl [(9,10)])) (als:= [9,10]) (s0:=⟨cc,fun _=>none⟩) (L:=(c1::a0::T::c6)) (N:=231) (E:= [(7,(pB a3)),(12,(.slice bh ((ws++bs).length) bi)),(13,(.slice bp aw.length c3)),(18,(.slice cg bk.length cj)),(20,(iV (HS.u F))),(21,(iV (HS.u F - HS.u a4))),(23,(iV ((ay: Nat): Int))),(24,(pB cq)),(143,(.slice bh ((ws++bs).length) bi)),(144,(iV (((ws++bs).length: Nat): Int))),(145,(iV ((ay: Nat): Int)))]) 11 [FcV (pB a3),FcV (pB a3),FcV (pB a3),FcV (pB b6),FcV (.agg (wA V)),As.lf (fun H v=> ∃ A c,v=(.tuple #[(tv ((readS (HS.S F) V).1) A c),(iV ((readS (HS.S F) V).2))])/\RowT H A c ((readS (HS.S F) V).1.l)),As.lf (fun H v=> ∃ A c,v=(.tuple #[(tv ((readS (HS.S F) V).1) A c),(iV ((readS (HS.S F) V).2))])/\RowT H A c ((readS (HS.S F) V).1.l)),As.lf (fun H v=> ∃ A c,v=(tv ((readS (HS.S F) V).1) A c)/\RowT H A c ((readS (HS.S F) V).1.l)),FcV (iV ((readS (HS.S F) V).2)),fun s v=> ∃ b,s.ax 9=some [(some b,(.cells aZ 41 (0,0)))]/\v=.pointer (some ⟨b,0,none⟩),fun s _=> ∃(b: Nat) (A: Option Addr) (c: Nat),s.ax 9=some [(some b,(.cells aZ 41 (0,0)))]/\s.ax 10=some [(eO b 41 (tA ((readS (HS.S F) V).1) A c))]/\RowT s.H A c ((readS (HS.S F) V).1.l)] mixed j1 j1 j1 j9 (fun _=>rfl) C (q.pk J) (As.QuietsI.c4 ?_ ?_ ?_ ?_ (As.QuietsI.c4 ?_ ?_ ?_ ?_ (As.QuietsI.c2 ?_ ?_ (As.QuietsI.cons ?_ (As.QuietsI.nil))))) (fun ey a w d9 a2 C q bg=>?_)
         ·refine As.Qx J fun a w O G Y a1 C q I a2=>?_;have Z:=C;exact aj q J J fun a q=>As.ql q Z
         ·refine As.Qx1 0 J fun a w O G Y a1 C q I a2=>?_;have Z:=C;exact av q J J fun a q=>As.ql q Z
         ·refine As.Qx1 1 J fun a w O G Y a1 C q I a2=>?_;have Z:=C;exact ac (f:=0) (o2:=0) T46 T44 J J J J q J J fun a q=>As.ql q Z
         ·refine As.Qx1 2 J fun a w O G Y a1 C q I a2=>?_;have Z:=C;have C:=Step.dropN _ _ C;obtain⟨bm,bx,bq,bo,bz,br,au⟩:=HM.blk c5;have ar:=C.inv.own _ (a7 [c1,a0,T] au) a3 J;exact af (v:=(pB b6)) T44 J q J ar J J fun a q=>As.ql q Z
         ·refine As.Qx J fun a w O G Y a1 C q I a2=>?_;have Z:=C;have C:=Step.dropN _ _ C;exact al (vs:=(wL V)) T35 J q J (C.blkL 0 J) J (ag J) J fun a q=>As.ql q Z
         ·refine As.Qx1 3 J fun a w O G Y a1 C q I a2=>?_;obtain⟨_,q,rfl⟩:=I.g q 4 J;have Z:=C;have fn:=Step.dropN _ _ C;have C:=Step.perm C (List.Perm.of_eq (List.append_assoc (As.aents (As.il []) (As.sl [(9,10)]) [9,10] G) [c1,a0,T] c6).symm);have e5:=c_mRead (C.tail ((As.aents (As.il []) (As.sl [(9,10)]) [9,10] G)++ [c1,a0,T])) c5 (x:=V);rw [ec V (List.mem_of_getElem? d6)] at e5;refine id (Co func16 q J (e5) ?_);rintro e w ⟨h3,b1,b2,rfl,bj,dx⟩;refine⟨_,rfl,fun a q=>?_⟩;have C:=C.frameR ((As.aents (As.il []) (As.sl [(9,10)]) [9,10] G)++ [c1,a0,T]) dx;have C:=Step.perm C (List.Perm.of_eq (List.append_assoc (As.aents (As.il []) (As.sl [(9,10)]) [9,10] G) [c1,a0,T] c6));exact As.qdone (s:=⟨O,G⟩) dx.le q C ⟨b1,b2,rfl,bj⟩
         ·refine As.Qx J fun a w O G Y a1 C q I a2=>?_;obtain⟨_,q,b1,b2,rfl,bj⟩:=I.g q 5 J;have Z:=C;refine id (aj q J J fun a q=>?_);exact As.qdone (s:=⟨O,G⟩) (Le.refl _) q Z ⟨b1,b2,rfl,bj⟩
         ·refine As.Qx J fun a w O G Y a1 C q I a2=>?_;obtain⟨_,q,b1,b2,rfl,bj⟩:=I.g q 6 J;have Z:=C;refine id (ad (v:=(tv ((readS (HS.S F) V).1) b1 b2)) q J J J fun a q=>?_);exact As.qdone (s:=⟨O,G⟩) (Le.refl _) q Z ⟨b1,b2,rfl,bj⟩
         ·refine As.Qx J fun a w O G Y a1 C q I a2=>?_;obtain⟨_,q,b1,b2,rfl,bj⟩:=I.g q 6 J;have Z:=C;exact ad (v:=(iV ((readS (HS.S F) V).2))) q J J J fun a q=>As.ql q Z
         ·refine As.Qx J fun a w O G Y a1 C q I a2=>?_;have C: Step w0 H [] w O ((As.aents (As.il []) (As.sl [(9,10)]) [] G++As.aents (As.il []) (As.sl [(9,10)]) [10] G++(c1::a0::T::c6))):=As.opn (s:=⟨O,G⟩) [] [9] [10] [] J (As.con0 a1 J) C;refine aE (cs:=aZ) T41 C q J J fun b7 a w C q=>?_;exact As.qown (i:=9) (dst:=some 25) (s:=⟨O,G⟩) (E:= [(some b7,(.cells aZ 41 (0,0)))]) [] [9] [10] J J a1 (Le.refl _) q.dfr (As.has_at q) C As.con1 ⟨b7,rfl,rfl⟩
         ·refine As.Qx J fun a w O G Y a1 C q I a2=>?_;obtain⟨_,q,b7,bv,rfl⟩:=I.g q 9 J;have bv: G 9=some [(some b7,(.cells aZ 41 (0,0)))]:=bv;obtain⟨_,q,b1,b2,rfl,bj⟩:=I.g q 7 J;have C: Step w0 H [] w O ((some b7,(.cells aZ 41 (0,0)))::(As.aents (As.il []) (As.sl [(9,10)]) [] G++As.aents (As.il []) (As.sl [(9,10)]) [] G++(c1::a0::T::c6))):=As.opn (s:=⟨O,G⟩) [] [9,10] [] [(some b7,(.cells aZ 41 (0,0)))] J (As.con2 J J J bv a1) C;refine id (ak (cs':=(tA ((readS (HS.S F) V).1) b1 b2)) T41 C (i:=0) J q J J J J J J fun a w C q=>?_);exact As.qown (i:=10) (dst:=none) (s:=⟨O,G⟩) (E:= [(eO b7 41 (tA ((readS (HS.S F) V).1) b1 b2))]) [] [9,10] [] J J a1 (Le.refl _) q.dfr (v:=undef) (fun _ h=>by cases h) C (.inl (As.con2' J J)) ⟨b7,b1,b2,bv,rfl,bj⟩
         obtain⟨co,G⟩:=d9;have d2: Le cc co:=a2.le;dsimp only at bg C;have hr:=hr.mono d2;have b5:=b5.mono d2;obtain⟨_,q,rfl⟩:=As.Dd q bg 8 J;obtain⟨_,q,b7,bv,rfl⟩:=As.Dd q bg 9 J;have bv: G 9=some [(some b7,(.cells aZ 41 (0,0)))]:=bv;obtain⟨_,gp,ej,b1,b2,gk,d8,bj⟩:=bg 10 _ _ J J;have d8: G 10=some [(eO ej 41 (tA ((readS (HS.S F) V).1) b1 b2))]:=d8;obtain rfl: b7=ej:=by have b9:=(bv).symm.trans gk;simpa using b9
         have C: Step w0 H [] w co ((eO b7 41 (tA ((readS (HS.S F) V).1) b1 b2))::(eO cq 35 (wA V))::a0::T::c6):=by
          have b9:=C;unfold As.aents at b9;simp only [List.flatMap_cons,List.flatMap_nil,As.conE,show (As.sl [(9,10)]) 9=some 10 from rfl,show (As.sl [(9,10)]) 10=none from rfl,bv,d8,Option.isSome_some,Option.getD_some,cond_true,cond_false,List.cons_append,List.nil_append,List.append_nil] at b9;exact b9
         refine any1 (i:=11) j1 J J (aH q J J fun a q=>?_);refine any0 j1 ?_;refine aa (wp_seq ?_);have dr:=C;obtain⟨⟨gw,db,dm⟩,ci,ha,ew,eh,go,g3,fz⟩:=ct.get (j:=ay) j0;have fg:(bp: Option Addr)=some ⟨ci,0,none⟩:=by injection go
         have gi:=b5 _ (List.mem_of_getElem? eh);obtain rfl: gw=(readS (HS.S F) V).1:=reads_at cu d6 eh;refine b0 bI [FcV (iV ((readS (HS.S F) V).2)),FcV (.bool false),FcV (.bool false),FcV (tv ((readS (HS.S F) V).1) b1 b2),FcV (.slice bp aw.length c3),FcV (iV ((ay: Nat): Int)),FcV (.pointer (some ⟨ci,0+ay * 4,none⟩)),FcV (tv ((readS (HS.S F) V).1) db dm),FcV (.bool true),FcV (.bool false),FcV (.bool false)] (N:=231) (E:= [(7,(pB a3)),(12,(.slice bh ((ws++bs).length) bi)),(13,(.slice bp aw.length c3)),(18,(.slice cg bk.length cj)),(20,(iV (HS.u F))),(21,(iV (HS.u F - HS.u a4))),(23,(iV ((ay: Nat): Int))),(25,(pB b7)),(26,(iV ((readS (HS.S F) V).2))),(143,(.slice bh ((ws++bs).length) bi)),(144,(iV (((ws++bs).length: Nat): Int))),(145,(iV ((ay: Nat): Int)))]) mixed j1 j8 C (q.pk J) (.c4 ?_ ?_ ?_ ?_ (.c4 ?_ ?_ ?_ ?_ (.c2 ?_ ?_ (.cons ?_ (.nil))))) (fun a w h4 gf C q bg=>?_)
         ·refine Qz J fun a w C q I=>?_;exact aj q J J fun a q=>qe q C
         ·refine Qz1 0 J fun a w C q I=>?_;refine id (bE (i:=((readS (HS.S F) V).2)) (j:=0) q J J J fun a q=>?_);rw [show (!decide (((readS (HS.S F) V).2)=0))=false from by simp [cv V (List.mem_of_getElem? d6)]] at q;exact qe q C
         ·refine Qz1 1 J fun a w C q I=>?_;exact aj q J J fun a q=>qe q C
         ·intro a w O Y C q I;subst Y;obtain⟨_,q,rfl⟩:=I.g q 2 J;rw [if_pos (aB J q J J J)];exact al (vs:=(tL ((readS (HS.S F) V).1) b1 b2)) T41 J q J (C.blkL 0 J) J (ag J) J fun a q=>qe q C
         ·intro a w O Y C q I;subst Y;obtain⟨_,q,rfl⟩:=I.g q 2 J;rw [if_pos (aB J q J J J)];exact aj q J J fun a q=>qe q C
         ·intro a w O Y C q I;subst Y;obtain⟨_,q,rfl⟩:=I.g q 2 J;rw [if_pos (aB J q J J J)];exact aj q J J fun a q=>qe q C
         ·intro a w O Y C q I;subst Y;obtain⟨_,q,rfl⟩:=I.g q 4 J;obtain⟨_,q,rfl⟩:=I.g q 5 J;obtain⟨_,q,rfl⟩:=I.g q 2 J;rw [if_pos (aB J q J J J)];exact aC (b:=ci) (o:=0) (j:=ay) T39.und T41 fg q J J j0 j0 J fun a q=>qe q C
         ·intro a w O Y C q I;subst Y;obtain⟨_,q,rfl⟩:=I.g q 6 J;obtain⟨_,q,rfl⟩:=I.g q 2 J;rw [if_pos (aB J q J J J)];exact al (vs:=(tL ((readS (HS.S F) V).1) db dm)) T41 J q J (C.blkL 3 (b:=ci) (o:=.cells ew 41 (0,0)) (by rw [<- g3];rfl)) J fz J fun a q=>qe q C
         ·intro a w O Y C q I;subst Y;obtain⟨_,q,rfl⟩:=I.g q 3 J;obtain⟨_,q,rfl⟩:=I.g q 7 J;obtain⟨_,q,rfl⟩:=I.g q 2 J;rw [if_pos (aB J q J J J)];have e6:=c_sameTerms (ta:=((readS (HS.S F) V).1)) (tb:=((readS (HS.S F) V).1)) C.inv.nil bj gi;rw [show eqT ((readS (HS.S F) V).1) ((readS (HS.S F) V).1)=true from (dJ _ _).2 J] at e6;exact Cs func20 q J (e6) C fun a w q C=>qe q C
         ·intro a w O Y C q I;subst Y;obtain⟨_,q,rfl⟩:=I.g q 8 J;obtain⟨_,q,rfl⟩:=I.g q 2 J;rw [if_pos (aB J q J J J)];exact aS q J J fun a q=>qe q C
         ·refine Qz1 2 J fun a w C q I=>?_;obtain⟨_,q,rfl⟩:=I.g q 9 J;exact am q J J J fun a q=>qe q C
         subst gf;obtain⟨_,q,rfl⟩:=Dd q bg 10 J;refine aa (ah q J (wp_skip (ao (aa (ab (lin J (aL (i:=((ay: Nat): Int)) (j:=1) q J J J j0 fun a q=>?_)))))));refine Lm J q fun a q=>?_;refine wpList_nil (aa (?_));have C:=C.fd [0,0] J;exact⟨(ws++bs).length - (ay+1),by omega,co,(ay+1),(cm.trans (d2)),rfl,q.pk J,C,j0⟩
        ·refine ah q J (wp_exit (az (az (aN (aa (wp_seq (ab (Lm J q fun a q=>?_))))))));refine lin J (av q J J fun a q=>?_);refine lin J (ac (f:=0) (o2:=0) T46 T44 J J J J q J J fun a q=>?_);obtain⟨bm,bx,bq,bo,bz,br,au⟩:=HM.blk c5;have ar:=C.inv.own _ (a7 [a0,T] au) a3 J;refine lin J (af (v:=(pB b6)) T44 J q J ar J J fun a q=>?_);refine Lm J q fun a q=>?_;have e7:=c_mLive (C.tail [a0,T]) c5 ca b3;rw [ge] at e7;refine lin J (Co func17 q J (e7) ?_);rintro e w ⟨h5,ek,ev,bt,rfl,fm,dy⟩;refine⟨_,rfl,fun a q=>?_⟩;have C:=Step.perm (C.frameR [a0,T] dy) List.perm_middle;have b3:=b3.mono dy.le;refine Lm J q fun a q=>?_;refine lin J (ad (v:=(.slice ek bk.length ev)) q J J J fun a q=>?_);refine lin J (ad (v:=(iV 0)) q J J J fun a q=>?_);refine Ls J q fun a q=>?_;refine Ls J q fun a q=>?_;refine wpList_nil (aa (wp_seq (ab (Lm J q fun a q=>?_))));refine lin J (av q J J fun a q=>?_);refine lin J (ac (f:=0) (o2:=0) T46 T44 J J J J q J J fun a q=>?_);obtain⟨bm,bx,bq,bo,bz,br,au⟩:=HM.blk c5;have ar:=C.inv.own _ (a7 [bt,a0,T] au) a3 J;refine lin J (af (v:=(pB b6)) T44 J q J ar J J fun a q=>?_);refine Lm J q fun a q=>?_;have e8:=fv (C.tail [bt,a0,T]) c5 ca b3;rw [e2] at e8;refine lin J (Co func19 q J (e8) ?_);rintro e w ⟨h6,h8,rfl,dp,g0⟩;refine⟨_,rfl,fun a q=>?_⟩;have C:=C.frameR [bt,a0,T] g0;refine Lm J q fun a q=>?_;refine lin J (ad (v:=(iV 0)) q J J J fun a q=>?_);refine lin J (ad (v:=(iV 0)) q J J J fun a q=>?_);refine Ls J q fun a q=>?_;refine Ls J q fun a q=>?_;refine wpList_nil (aa (wp_seq (ab (Lm J q fun a q=>?_))));refine lin J (av q J J fun a q=>?_);refine lin J (ac (f:=0) (o2:=0) T46 T44 J J J J q J J fun a q=>?_);obtain⟨bm,bx,bq,bo,bz,br,au⟩:=HM.blk dp;have ar:=C.inv.own _ (a7 [bt,a0,T] au) a3 J;refine lin J (af (v:=(pB b6)) T44 J q J ar J J fun a q=>?_);have e9:=fv (C.tail [bt,a0,T]) dp ca (RowG.nil (sz:=4) (f:=Wd.cells));rw [gl] at e9;refine lin J (Co func19 q J (e9) ?_);rintro e w ⟨h7,h9,rfl,dq,g1⟩;refine⟨_,rfl,fun a q=>?_⟩;have C:=C.frameR [bt,a0,T] g1;refine Lm J q fun a q=>?_;refine lin J (ad (v:=(iV (HS.u a4))) q J J J fun a q=>?_);refine lin J (ad (v:=(iV 0)) q J J J fun a q=>?_);refine Ls J q fun a q=>?_;refine Ls J q fun a q=>?_;refine wpList_nil (aa (wp_seq (ab (Lm J q fun a q=>?_))));refine lin J (bn (i:=0) (j:=0) q J J J fun a q=>?_);refine Lm J q fun a q=>?_;refine ae J q J J J (aj q J J fun a q=>?_);refine ae J q J J J (bn (i:=0) (j:=0) q J J J fun a q=>?_);refine lin J (aq q J J J fun a q=>?_);refine Lm J q fun a q=>?_;refine ae J q J J J (aj q J J fun a q=>?_);refine ae J q J J J (bn (i:=0) (j:=0) q J J J fun a q=>?_);refine lin J (aq q J J J fun a q=>?_);refine Lm J q fun a q=>?_;refine ae J q J J J (aj q J J fun a q=>?_);refine ae J q J J J (aj q J J fun a q=>?_);have ea:=c_EqualI C.inv.nil (RdI.of_row C.inv fl 1 J (by simp;omega)) (RdI.of_row C.inv fm 0 J (by simp;omega));rw [decide_eq_true (rfl:(bk: List Int)=bk)] at ea;refine ae J q J J J (Co func21 q J (ea) ?_);rintro e w ⟨rfl,c7⟩;refine⟨_,rfl,fun a q=>?_⟩;have C:=C.call c7;refine lin J (aq q J J J fun a q=>?_);refine Lm J q fun a q=>?_;refine ae J q J J J (aj q J J fun a q=>?_);refine ae J q J J J (bn (i:=0) (j:=0) q J J J fun a q=>?_);refine lin J (aq q J J J fun a q=>?_);refine Lm J q fun a q=>?_;refine ae J q J J J (aj q J J fun a q=>?_);refine ae J q J J J (aj q J J fun a q=>?_);refine ae J q J J J (aj q J J fun a q=>?_);refine ae J q J J J (cx (i:=(HS.u F)) (j:=(HS.u F - HS.u a4)) q J J J j0 fun a q=>?_);refine ae J q J J J (bn (i:=(HS.u a4)) (j:=((HS.u F) - (HS.u F - HS.u a4))) q J J J fun a q=>?_);rw [show (decide ((HS.u a4)=((HS.u F) - (HS.u F - HS.u a4))))=true from by simp;omega] at q;refine lin J (aq q J J J fun a q=>?_);refine Lm J q fun a q=>?_;refine ae J q J J J (aj q J J fun a q=>?_);refine ae J q J J J (av q J J fun a q=>?_);refine ae J q J J J (ac (f:=0) (o2:=0) T46 T44 J J J J q J J fun a q=>?_);obtain⟨bm,bx,bq,bo,bz,br,au⟩:=HM.blk dq;have ar:=C.inv.own _ (a7 [bt,a0,T] au) a3 J;refine ae J q J J J (af (v:=(pB b6)) T44 J q J ar J J fun a q=>?_);have eb:=f5 (C.tail [bt,a0,T]) dq;rw [ee] at eb;refine ae J q J J J (Co func18 q J (eb) ?_);rintro e w ⟨rfl,c7⟩;refine⟨_,rfl,fun a q=>?_⟩;have C:=C.frameR [bt,a0,T] c7;refine ae J q J J J (bn (i:=0) (j:=0) q J J J fun a q=>?_);refine lin J (aq q J J J fun a q=>?_);refine Ls J q fun a q=>?_;refine wpList_nil (aa (wp_ret (ret1 J q J ?_)));exact⟨_,rfl,C.drop_all⟩
end Go.Vk.Tryz
namespace Go.Vk.Tryz
open Go.ChangeShapes Go.WideShapes Go.ChangeAt Go.RowKit Go.Deep
theorem cells3: Go.Proofs.Tryz.prog.cellsOf 3=1:=by kernel_rfl
section
variable {H: Type} {enc: TypeId × Value->H} {W: World}
theorem e9 {a: Addr} {v: Value} (h: W.cell? a=some v): ∃(cs: Array Value) (e: Nat) (fz: Nat × Nat),a=⟨a.block,a.off,none⟩/\W.heap[a.block]? =some (.cells cs e fz)/\cs[a.off]? =some v:=by
 have hs:=World.cell?_spot h;unfold World.cell? at h;rw [hs] at h
 cases hb: W.heap[a.block]? with
 | none=>rw [hb] at h;simp at h
 | some o =>
  rw [hb] at h
  cases o with
  | cells cs e fz =>
   refine⟨cs,e,fz,?_,rfl,by simpa using h⟩
   cases a;simp at hs;simp [hs]
  | _=>simp at h
theorem bX (a: Addr) (k: Nat):(a.add k).block=a.block:=by unfold Addr.add;split <;> rfl
theorem eY (a: Addr) (k: Nat):(a.add k).off=a.off+k:=by
 unfold Addr.add
 split
 ·omega
 ·rfl
theorem bulk_len (l: List (DataW H)): l.length<=Go.Proofs.YthblpljakpecdaaGreat.Rows.uptoBulkAll l:=by
 induction l with
 | nil=>simp
 | cons x r ih =>
  have h1: 1<=Go.Proofs.YthblpljakpecdaaGreat.Rows.uptoBulk x:=by
   cases x with
   | lit l=>cases l <;> simp [Go.Proofs.YthblpljakpecdaaGreat.Rows.uptoBulk]
   | _=>simp [Go.Proofs.YthblpljakpecdaaGreat.Rows.uptoBulk]
  simp only [Go.Proofs.YthblpljakpecdaaGreat.Rows.uptoBulkAll,List.length_cons];omega
theorem open_ints {n: Nat} {v: Value} {y: DataW H × List MemPlace} (hB: Go.Proofs.YthblpljakpecdaaGreat.Rows.uptoBulk y.1<=1048576) (h: DataW.trod enc prog W 0 (fun _=>true) true n 26 [v]=some y) :
  ∃(A: Option Addr) (xs: List Int) (c: Nat),v=.slice A xs.length c/\RowI (fun b=>W.heap[b]?) A c xs:=by
 rcases open_slice T26.und h with ⟨hc,_⟩ |⟨a,len,cap,m,n',D,Pl,hc,_,hl,hm,hmm,hx,hall⟩
 ·simp only [List.cons.injEq,and_true] at hc;exact⟨none, [],0,hc,Nat.le_refl _,by simp,0,0,0,#[],(0,0),fun hn=>absurd J hn,fun j u hj=>by simp at hj⟩
 ·simp only [List.cons.injEq,and_true] at hc;simp only [if_true] at hmm;subst hmm hx;rw [cells3] at hall;simp only [Go.Proofs.YthblpljakpecdaaGreat.Rows.uptoBulk] at hB;have hlen: len<=1048576:=by have:=bulk_len ((List.range len).map D);simp at this;omega
  have key: ∀ i,i < len->∃ x: Int,W.cells? 0 (a.add (i * 1)) 1=some [.int .i64 x]:=by
   intro i hi;obtain⟨cs',h1,h2⟩:=hall i j0;obtain⟨x,rfl,_⟩:=DataW.trod_int T3.und h2;exact⟨x,h1⟩
  classical
  let T: Nat->Int:=fun i=>if hi: i < len then (key i hi).choose else 0
  have hsp: ∀ i,i < len->W.cells? 0 (a.add (i * 1)) 1=some [.int .i64 (T i)]:=by
   intro i hi;simp only [T,dif_pos hi];exact(key i hi).choose_spec
  refine⟨some a,(List.range len).map T,m,by rw [hc];simp,?_⟩
  by_cases h0: len=0
  ·subst h0;exact⟨by simp,by simp,0,0,0,#[],(0,0),fun hn=>absurd J hn,fun j u hj=>by simp at hj⟩
  ·obtain⟨_,_,hcell⟩:=World.cells?_some (hsp 0 j0);obtain⟨cs,e,fz,ha,hb,_⟩:=e9 (hcell 0 j0);have hb': W.heap[a.block]? =some (.cells cs e fz):=by rw [bX,bX] at hb;exact hb
   have ha': a=⟨a.block,a.off,none⟩:=by
    have:=World.cell?_spot (hcell 0 j0)
    cases a;simp [Addr.add] at this;simp [this]
   refine⟨by simp;omega,by simp;omega,a.block,a.off,e,cs,fz,fun _=>⟨by rw [<- ha'],hb'⟩,fun j u hj=>?_⟩;rw [List.getElem?_map,List.getElem?_map] at hj
   by_cases hlt: j < len
   ·rw [List.getElem?_range hlt] at hj;obtain⟨_,_,hcell⟩:=World.cells?_some (hsp j hlt);have h8:=hcell 0 j0;obtain⟨cs2,e2,fz2,_,hb2,hu2⟩:=e9 h8;have hb3: W.heap[a.block]? =some (.cells cs2 e2 fz2):=by rw [bX,bX] at hb2;exact hb2
    rw [hb'] at hb3;injection hb3 with hb3
    injection hb3 with hb3
    subst hb3;rw [eY,eY,Nat.mul_one,Nat.add_zero] at hu2;rw [hu2];exact hj
   ·rw [List.getElem?_eq_none (by simpa using Nat.le_of_not_lt hlt)] at hj;cases hj
theorem inv_all (W: World): Inv W (fun b=>W.heap[b]?) []:=⟨fun e he=>(by cases he),List.Pairwise.nil,fun k o h=>⟨h,bT⟩⟩
theorem below_of {w: World} {H: PHeap} {H': PHeap} {w': World} (h: Step w H [] w' H' []): Below w.heap.size w w':=⟨h.os,h.tape,h.output,h.size,fun k hk=>h.blk k hk bT⟩
end
end Go.Vk.Tryz
namespace Go.Vk.Tryz
open Go.ChangeShapes Go.WideShapes Go.ChangeAt Go.RowKit Go.Deep Go.Proofs.YthblpljakpecdaaGreat
theorem own: ownKnob Go.Proofs.Tryz.prog.godebug=none:=by kernel_rfl
theorem laidOut: laidOutB prog=true:=by kernel_rfl
section
variable {H: Type} {enc: TypeId × Value->H} {W: World}
theorem trodAll_stays {W': World} (hb: Below W.heap.size W W') (sp: Nat->Bool): ∀(ts: List TypeId) (vs: List Value) (ds: List (DataW H)) (ps: List MemPlace),(∀ t ∈ ts,Go.Proofs.Tryz.prog.readableRec t=true/\t < Go.Proofs.Tryz.prog.types.size)->DataW.TrodAll enc prog W 0 (fun _=>true) true ts vs ds ps->(∀ x ∈ ps,x.block < W.heap.size)->(∀ x ∈ ps,sp x.block=true)->
  DataW.TrodAll enc prog W' 0 sp true ts vs ds ps
 | [], [], [],ps,_,h,_,_=>h
 | [],_::_,_,_,_,h,_,_=>h.elim
 | [], [],_::_,_,_,h,_,_=>h.elim
 | _::_, [],_,_,_,h,_,_=>h.elim
 | _::_,_::_, [],_,_,h,_,_=>h.elim
 | t::ts,v::vs,d::ds,ps,ht,h,hl,hs=>by
  obtain⟨p,q,h1,h2,rfl⟩:=h;refine⟨p,q,WideElems.Trod_stays laidOut (ht t List.mem_cons_self).1 (ht t List.mem_cons_self).2 h1 (fun x hx=>hb.same (hl x (List.mem_append_left _ hx))) (fun x hx=>hs x (List.mem_append_left _ hx)),?_,rfl⟩;exact trodAll_stays hb sp ts vs ds q (fun u hu=>ht u (List.mem_cons_of_mem _ hu)) h2 (fun x hx=>hl x (List.mem_append_right _ hx)) (fun x hx=>hs x (List.mem_append_right _ hx))
theorem open_intV {v: Value} {d: DataW H} {ps: List MemPlace} (h: DataW.Trod enc prog W 0 (fun _=>true) true 3 v d ps) (hv: Value.okWide prog W .any 0 3 v): ∃ i: Int,v=.int .i64 i:=by
 unfold Value.okWide at hv;rw [T3.und] at hv;obtain⟨n,h⟩:=h
 cases v with
 | int k i =>
  obtain⟨j,e,_⟩:=DataW.trod_int T3.und h;have e2: [Value.int k i]= [.int .i64 j]:=e;injection e2 with e3 _
  exact⟨j,e3⟩
 | _=>exfalso;simp [Cell.okWide,Cell.ok,T3.und] at hv
theorem post_old {f: Func} {s: ChangeSpec} {W': World} {args: Array Value} {ds gs: List (DataW H)} {before: List MemPlace} {l: DataW H} {r: Value}
  (hW: DataW.Whole enc prog f.params.toList s.vars false W args.toList ds gs before) (hvs: s.vars= []) (hds:(s.fn H (ds++gs)).args=ds) (hvr:(s.fn H (ds++gs)).vars= [])
  (hres: ∀(b: Nat) (sp: Nat->Bool) (hd: Bool),DataW.TrodAll enc prog W' b sp hd f.resultTypes.toList (r.resultList f.resultTypes.size) (s.fn H (ds++gs)).results [])
  (hb: Below W.heap.size W W') (hts: ∀ t ∈ f.params.toList,Go.Proofs.Tryz.prog.readableRec t=true/\t < Go.Proofs.Tryz.prog.types.size)
  (hok: ∀(j: Nat) (t: TypeId) (u: Value),f.resultTypes[j]? =some t->(r.resultList f.resultTypes.size)[j]? =some u->Value.okWide prog W' .any 0 t u) :
  s.post enc prog f false true false false W args r W':=by
 have hlt:=hW.lt;have hW0:=hW;obtain⟨p,q,hA,hV,rfl,hz,hn⟩:=hW0;rw [hvs] at hV;have hargs: ∀ sp: Nat->Bool,(∀ x ∈ p++q,sp x.block=true)->DataW.TrodAll enc prog W' 0 sp true f.params.toList args.toList (s.fn H (ds++gs)).args p:=fun sp hs=>by
  rw [hds];exact trodAll_stays hb sp _ _ _ _ hts hA (fun x hx=>hlt x (List.mem_append_left _ hx)) (fun x hx=>hs x (List.mem_append_left _ hx))
 obtain⟨rfl,rfl⟩:=trodVars_none hV;have hvars: ∀ sp: Nat->Bool,DataW.TrodVars enc prog W' sp s.vars (s.fn H (ds++ [])).vars []:=fun sp=>by rw [hvs,hvr];exact rfl
 have hold: ∀ x ∈ p++ [],(fun b=>decide (b < W.heap.size)) x.block=true:=fun x hx=>by simpa using hlt x hx
 refine⟨ds, [],p++ [], [],p, [],hW,hres _ _ _,hargs _ hold,hvars _,World.keptBut_mono (fun x hx=>⟨hx,.inr (by simpa using hx)⟩) (hb.frame _),fun _=>?_⟩;refine⟨hok,_,_,([]++p)++ [],⟨[]++p, [],trodAll_append (hargs _ (fun _ _=>rfl)) (hres _ _ _),hvars _,rfl,?_,?_⟩,?_⟩
 ·intro b off hp;have hp': MemPlace.cell b off ∈ p++ []:=by simpa using hp
  have h1:=hz b off hp';have h2:=hb.block b (hlt _ hp');unfold World.frozen? at h1 ⊢;rw [h2];exact h1
 ·intro ha;cases ha
 ·intro x hx _;simpa using hx
theorem open_intsV {v: Value} {d: DataW H} {ps: List MemPlace} (hB: Rows.uptoBulk d<=1048576) (hv: Value.okWide prog W .any 0 26 v) (h: DataW.Trod enc prog W 0 (fun _=>true) true 26 v d ps) :
  ∃(A: Option Addr) (xs: List Int) (c: Nat),v=.slice A xs.length c/\RowI (fun b=>W.heap[b]?) A c xs:=by
 obtain⟨n,h⟩:=h;unfold Value.okWide at hv;rw [T26.und] at hv;unfold Cell.okWide at hv
 cases v with
 | slice a l c=>exact open_ints hB h
 | _=>first |(exfalso;simp [Cell.ok,T26.und] at hv;done) |(obtain⟨A,xs,c,h1,h2⟩:=open_ints hB h;cases h1)
end
end Go.Vk.Tryz
namespace Go.Vk.Tryz
open Go.ChangeShapes Go.WideShapes Go.ChangeAt Go.RowKit Go.Deep Go.Proofs.YthblpljakpecdaaGreat
theorem cellsSt: Go.Proofs.Tryz.prog.cellsOf 32=4:=by kernel_rfl
section
variable {H: Type} {enc: TypeId × Value->H} {W: World}
theorem open_st {n: Nat} {cs: List Value} {x: DataW H × List MemPlace} (h: DataW.trod enc prog W 0 (fun _=>true) true n 32 cs=some x): ∃ p: StV,cs=p.cells:=by
 obtain⟨xs,m,_,rfl,hl,hlen,hf⟩:=DataW.trod_struct T32.und h;rw [cellsSt] at hl
 match cs,hl with
 | [c0,c1,c2,c3],_ =>
  match xs,hlen with
  | [y0,y1,y2,y3],_ =>
   have h0:=hf 0 _ J;have h1:=hf 1 _ J;have h2:=hf 2 _ J;have h3:=hf 3 _ J;simp [cells3] at h0 h1 h2 h3;obtain⟨k,e0,_⟩:=DataW.trod_int T3.und h0;obtain⟨i,e1,_⟩:=DataW.trod_int T3.und h1;obtain⟨j,e2,_⟩:=DataW.trod_int T3.und h2;obtain⟨l,e3,_⟩:=DataW.trod_int T3.und h3;simp only [List.cons.injEq,and_true] at e0 e1 e2 e3;subst e0 e1 e2 e3;exact⟨⟨k,i,j,l⟩,rfl⟩
theorem open_steps {v: Value} {d: DataW H} {ps: List MemPlace} (hB: Rows.uptoBulk d<=1048576) (hv: Value.okWide prog W .any 0 28 v) (h: DataW.Trod enc prog W 0 (fun _=>true) true 28 v d ps) :
  ∃(A: Option Addr) (xs: List StV) (c: Nat),v=.slice A xs.length c/\RowG 4 StV.cells (fun b=>W.heap[b]?) A c xs:=by
 obtain⟨n,h⟩:=h;have h: DataW.trod enc prog W 0 (fun _=>true) true n 28 [v]=some (d,ps):=by
  unfold Value.okWide at hv;rw [T28.und] at hv;unfold Cell.okWide at hv
  cases v with
  | slice a l c=>exact h
  | _=>first |(exfalso;simp [Cell.ok,T28.und] at hv;done) | exact h
 rcases open_slice T28.und h with ⟨hc,_⟩ |⟨a,len,cap,m,n',D,Pl,hc,_,hl,hm,hmm,hx,hall⟩
 ·simp only [List.cons.injEq,and_true] at hc;exact⟨none, [],0,hc,Nat.le_refl _,by simp,0,0,0,#[],(0,0),fun hn=>absurd J hn,fun j x hj=>by simp at hj⟩
 ·simp only [List.cons.injEq,and_true] at hc;simp only [if_true] at hmm;subst hmm;injection hx with hx1 hx2
  subst hx1;rw [cellsSt] at hall;simp only [Rows.uptoBulk] at hB;have hlen: len<=1048576:=by have:=bulk_len ((List.range len).map D);simp at this;omega
  have key: ∀ i,i < len->∃ p: StV,W.cells? 0 (a.add (i * 4)) 4=some p.cells:=by
   intro i hi;obtain⟨cs',h1,h2⟩:=hall i j0;obtain⟨p,rfl⟩:=open_st h2;exact⟨p,h1⟩
  classical
  let T: Nat->StV:=fun i=>if hi: i < len then (key i hi).choose else ⟨0,0,0,0⟩
  have hsp: ∀ i,i < len->W.cells? 0 (a.add (i * 4)) 4=some (T i).cells:=by
   intro i hi;simp only [T,dif_pos hi];exact(key i hi).choose_spec
  have hget: ∀(j: Nat) (t: StV),((List.range len).map T)[j]? =some t->j < len/\t=T j:=by
   intro j t hj;rw [List.getElem?_map] at hj
   by_cases hlt: j < len
   ·rw [List.getElem?_range hlt] at hj;exact⟨hlt,(Option.some.inj hj).symm⟩
   ·rw [List.getElem?_eq_none (by simpa using Nat.le_of_not_lt hlt)] at hj;cases hj
  refine⟨some a,(List.range len).map T,m,by rw [hc];simp,?_⟩
  ·refine⟨by simp;omega,by simp;omega,?_⟩
   by_cases h0: len=0
   ·subst h0;exact⟨0,0,0,#[],(0,0),fun hn=>absurd J hn,fun j t hj=>by simp at hj⟩
   ·obtain⟨_,hl4,hcell⟩:=World.cells?_some (hsp 0 j0);obtain⟨cs,e,fz,ha,hb,_⟩:=e9 (hcell 0 j0);have hb': W.heap[a.block]? =some (.cells cs e fz):=by rw [bX,bX] at hb;exact hb
    have ha': a=⟨a.block,a.off,none⟩:=by
     have:=World.cell?_spot (hcell 0 j0)
     cases a;simp [Addr.add] at this;simp [this]
    refine⟨a.block,a.off,e,cs,fz,fun _=>⟨by rw [<- ha'],hb'⟩,fun j t hj i u hu=>?_⟩;obtain⟨hlt,rfl⟩:=hget j t hj;obtain⟨_,_,hcell⟩:=World.cells?_some (hsp j hlt);have hi4: i < 4:=by have:=(List.getElem?_eq_some_iff.1 hu).1;rwa [show (T j).cells.length=4 from rfl] at this
    have h8:=hcell i hi4;rw [hu] at h8;obtain⟨cs2,e2,fz2,_,hb2,hu2⟩:=e9 h8;have hb3: W.heap[a.block]? =some (.cells cs2 e2 fz2):=by rw [bX,bX] at hb2;exact hb2
    rw [hb'] at hb3;injection hb3 with hb3
    injection hb3 with hb3
    subst hb3;rw [eY,eY] at hu2;exact hu2
end
end Go.Vk.Tryz
namespace Go.Vk.Tryz
open Go.ChangeShapes Go.WideShapes Go.ChangeAt Go.RowKit Go.Deep Go.Proofs.YthblpljakpecdaaGreat
theorem heapSwept_contract (H: Type) (enc: TypeId × Value->H) (W: World) (base: Nat) (args: Array Value) (ds gs: List (DataW H)) (before: List MemPlace)
  (hval: ∀(j: Nat) t v,Go.Proofs.Tryz.f4.params[j]? =some t->args[j]? =some v->Value.okWide prog W .any 0 t v)
  (hW: DataW.Whole enc prog Go.Proofs.Tryz.f4.params.toList Rows.heapSweptSpec.vars false W args.toList ds gs before) (hk: Rows.uptoSmall H (ds++gs)=true) :
  Calls prog 4 args W fun e W'=> ∃ v,e=.returned v/\Rows.heapSweptSpec.post enc prog f4 false true false false W args v W':=by
 have Z:=hW;obtain⟨p,af,V,Y,rfl,a9,aa⟩:=hW;have C: DataW.TrodAll enc prog W 0 (fun _=>true) true Go.Proofs.Tryz.f4.params.toList args.toList ds p:=V;rw [params4] at C hval;obtain⟨a2,a3,a4,q,F,G,ac,ad,ae,rfl,rfl,rfl,I,O,T⟩:=trodAll_three C;obtain⟨rfl,rfl⟩:=trodVars_none Y;have a0: Rows.uptoBulkAll ([q,F,G]++ [])<=1048576:=of_decide_eq_true hk;simp only [List.append_nil,Rows.uptoBulkAll] at a0;obtain⟨ab,rfl⟩:=open_intV I (hval 0 3 a2 J J);obtain⟨a5,ag,a7,rfl,h1⟩:=open_steps j0 (hval 1 28 a3 J J) O;obtain⟨a6,ah,a8,rfl,h2⟩:=open_intsV j0 (hval 2 26 a4 J J) T;refine(c_HeapSwept (inv_all W) h1 h2).mono fun e W' a1=>?_;obtain⟨H',rfl,X⟩:=a1;exact⟨_,rfl,post_old (l:=q) Z J J J (fun _ _ _=>trodAll_mk1 (shut_bool underlying4 _)) (below_of X) (by rw [params4];intro t ht;simp at ht;rcases ht with rfl | rfl | rfl <;> exact⟨by kernel_rfl,of_decide_eq_true j1⟩) (ok_one j1 J (okWide_bool_mk underlying4 _))⟩
theorem heapSwept_lifted (os: Os) (started: os.Started) (H: Type) (enc: TypeId × Value->H) (F: Stop.Interp) :
  ReturnsInHanded {} checked os 4 .any ((Rows.OpenSpec.upto Rows.heapSweptSpec).pre6 enc prog f4 Rows.heapSweptUptoRow.domain false) (((Rows.OpenSpec.upto Rows.heapSweptSpec).at F).post enc prog f4 false true false false):=by
 refine returnsInHanded_of_cond (C:=checked) (s:=Rows.OpenSpec.upto Rows.heapSweptSpec) (k:=Rows.uptoSmall) J own started j1 func4
  (OpenSpec.witness (enc:=enc) (C:=checked) (s:=Rows.OpenSpec.upto Rows.heapSweptSpec) (k:=Rows.uptoSmall) J false ⟨#[],#[.int .i64 0,.slice none 0 0,.slice none 0 0], []⟩ 8 j1 j1 j1
   (x:=([.lit (.int .i64 0),.nil,.nil], [], [])) j1 J j1) ?_
 intro W G q O T I Y V _ X _;exact heapSwept_contract H enc W G q O T I Y V X
theorem heapSwept_proved: Rows.HeapSweptUptoSaid:=
 OpenClaim.holds_of_cond 4 f4 J J J J J J J ⟨rfl,rfl,rfl,rfl,rfl⟩ J J J J J j1 func4 j1
  (of_decide_eq_true j1) (by unfold Func.isWrapper;first |(rw [if_pos (by decide +kernel)];kernel_rfl) |(rw [if_neg (by decide +kernel)];exact⟨rfl,rfl⟩))
  (fun C F H enc _ q=>heapSwept_lifted C F H enc q)
end Go.Vk.Tryz
namespace Go.Proofs.YthblpljakpecdaaGreat
theorem heapSwept_holds: Rows.HeapSweptUptoSaid:=Go.Vk.Tryz.heapSwept_proved
end Go.Proofs.YthblpljakpecdaaGreat

