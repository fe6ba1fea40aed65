/- Part 4 of the proof of unifyBack_holds. Conditions: none. -/
import Derived.Test.YtefepjpkelfcbaaC3
set_option linter.unusedVariables false
set_option linter.unusedSimpArgs false
set_option linter.unusedSectionVars false
set_option maxRecDepth 100000
open Go.Proofs.Try
namespace Go.Vk.Try
open Go.RowKit
set_option maxHeartbeats 40000000 in
theorem c_sane {w0: World} {H: PHeap} (hI: Inv w0 H []): Calls prog 11 #[] w0 (fun e w'=> ∃ H',e=.returned (.bool true)∧Step w0 H [] w' H' []):=by
 have hS:=Step.refl hI;refine enter [] func11 Y ntmps11 Y fun a ha=>?_;refine wp_seq (ab (Ls Y ha fun a ha=>?_));refine wpList_nil (aa (wp_seq (ab (lin Y (aK (vs:= []) (cells:=lZ) T26 PL26 ha (ha.evp Y) Y Y fun a ha=>?_)))));refine lin Y (aC (cs:=aZ) T26 hS ha Y Y fun b1 a w hS ha=>?_);refine lin Y (aw (cs':=aZ) T26 hS (i:=0) Y ha Y Y Y Y Y Y fun a w hS ha=>?_);refine wpList_nil (aa (wp_seq (wp_seq ?_)));have hS_:=hS;refine a9 bF [FcT q0,FcT q1,FcV vZ,FcT q0,FcV vZ,fun H v=> ∃ A c,v=.slice A 3 c∧RowT H A c [tZ,q0,tZ],fun H v=> ∃ A c,v=(.agg #[(.slice A k2.length c)])∧RowT H A c k2,FcV (.bool true),FcV (.bool false),FcV (.bool false),FcT q0,FcT q1,fun H v=> ∃ A c,v=.slice A 2 c∧RowT H A c [q0,q1],FcT q3,FcT q1,FcT q4,fun H v=> ∃ A c,v=.slice A 2 c∧RowT H A c [q1,q4],FcT q5,FcT q4,FcT q0,FcV vZ,fun H v=> ∃ A c,v=.slice A 3 c∧RowT H A c [q4,q0,tZ],fun H v=> ∃ A c,v=(.agg #[(.slice A k6.length c)])∧RowT H A c k6,FcV (.bool true),FcV (.bool false),FcV (.bool false),FcV (.bool false),FcT q7,FcT q1,fun H v=> ∃ A c,v=.slice A 2 c∧RowT H A c [q7,q1],FcT q8,FcT q1,FcT q0,fun H v=> ∃ A c,v=.slice A 2 c∧RowT H A c [q1,q0],FcT q9,FcV vZ,FcT q0,FcT q1,fun H v=> ∃ A c,v=.slice A 3 c∧RowT H A c [tZ,q0,q1],fun H v=> ∃ A c,v=(.agg #[(.slice A k10.length c)])∧RowT H A c k10,FcV (.bool true),FcV (.bool false),FcV (.bool false),FcV (.bool false),FcT q0,FcT q0,fun H v=> ∃ A c,v=.slice A 1 c∧RowT H A c [q0],FcT q11,FcV (.bool true),FcV (.bool false),FcV (.bool false),FcV (.bool false),FcT q0,FcT q1,fun H v=> ∃ A c,v=.slice A 2 c∧RowT H A c [q0,q1],FcT q3,FcT q1,fun H v=> ∃ A c,v=.slice A 1 c∧RowT H A c [q1],FcT q12,FcT q0,fun H v=> ∃ A c,v=.slice A 1 c∧RowT H A c [q0],FcT q13,fun H v=> ∃ A c,v=.slice A 2 c∧RowT H A c [q12,q13],FcT q14,FcV (.bool true),FcV (.bool false),FcV (.bool false),FcV (.bool false),FcT q0,fun H v=> ∃ A c,v=.slice A 1 c∧RowT H A c [q0],FcT q11,FcT q0,fun H v=> ∃ A c,v=.slice A 1 c∧RowT H A c [q0],FcT q13,FcV (.bool true),FcV (.bool false),FcV (.bool false)] (N:=386) (E:= [(1,(pB b1))]) mixed (by kernel_rfl) (by repeat' (first | exact Monos.nil | refine Monos.cons ?_ ?_ |(intro _ _ _ hl h;exact h) |(rintro _ _ _ hl ⟨A,c,h,hr⟩;exact⟨A,c,h,hr.mono hl⟩) |(rintro _ _ _ hl ⟨b,h,hb⟩;exact⟨b,h,hl _ _ hb⟩))) hS (ha.pk Y) (.c4 ?_ ?_ ?_ ?_ (.c4 ?_ ?_ ?_ ?_ (.c4 ?_ ?_ ?_ ?_ (.c4 ?_ ?_ ?_ ?_ (.c4 ?_ ?_ ?_ ?_ (.c4 ?_ ?_ ?_ ?_ (.c4 ?_ ?_ ?_ ?_ (.c4 ?_ ?_ ?_ ?_ (.c4 ?_ ?_ ?_ ?_ (.c4 ?_ ?_ ?_ ?_ (.c4 ?_ ?_ ?_ ?_ (.c4 ?_ ?_ ?_ ?_ (.c4 ?_ ?_ ?_ ?_ (.c4 ?_ ?_ ?_ ?_ (.c4 ?_ ?_ ?_ ?_ (.c4 ?_ ?_ ?_ ?_ (.c4 ?_ ?_ ?_ ?_ (.c4 ?_ ?_ ?_ ?_ (.c4 ?_ ?_ ?_ ?_ (.cons ?_ (.nil))))))))))))))))))))) (fun a w H103 hle103 hS ha hdr_=>?_)
 ·refine Qy Y fun a w H_ hle hS ha hd=>?_;exact Qd func39 ha Y (bV (n:=0) hS.inv.nil) hS
 ·refine Qy Y fun a w H_ hle hS ha hd=>?_;exact Qd func39 ha Y (bV (n:=1) hS.inv.nil) hS
 ·refine Qy Y fun a w H_ hle hS ha hd=>?_;exact ak (vs:=lZ) T26 Y ha Y (hS.blkL 0 rfl) Y (af Y) Y fun a ha=>ql ha hS
 ·refine Qy Y fun a w H_ hle hS ha hd=>?_;exact Qd func39 ha Y (bV (n:=0) hS.inv.nil) hS
 ·refine Qy Y fun a w H_ hle hS ha hd=>?_;exact ak (vs:=lZ) T26 Y ha Y (hS.blkL 0 rfl) Y (af Y) Y fun a ha=>ql ha hS
 ·refine Qy1 2 rfl fun a w H_ hle hS ha hd=>?_;obtain⟨_,ha,A7,c7,rfl,hr7⟩:=hd.g ha 3 rfl;obtain⟨_,ha,rfl⟩:=hd.g ha 4 rfl;refine id (aE (vs:= [(0,vZ),(1,(tv q0 A7 c7)),(2,vZ)]) (cells:= [(iV 0),(iV 0),(.string (⟨#[]⟩)),(.slice none 0 0),(iV q0.kind),(iV q0.n),(.string q0.s),(.slice A7 q0.l.length c7),(iV 0),(iV 0),(.string (⟨#[]⟩)),(.slice none 0 0)]) T22.und T26 hS ha (ha.evp Y) Y Y Y Y fun b9 a w hS ha=>?_);obtain⟨H9,hS,hle9,hb9⟩:=hS.give;have hr7:=hr7.mono hle9;have hr9: RowT H9 (some ⟨b9,0,none⟩) 3 [tZ,q0,tZ]:=RowT.of_lit ([⟨tZ,none,0⟩,⟨q0,A7,c7⟩,⟨tZ,none,0⟩]: List TV) hb9 (AllR.cons (RowT.nil _) (AllR.cons hr7 (AllR.cons (RowT.nil _) (AllR.nil _)))) (by simp) Y;exact qdone hle9 ha hS ⟨_,_,rfl,hr9⟩
 ·refine Qy Y fun a w H_ hle hS ha hd=>?_;obtain⟨_,ha,A9,c9,rfl,hr9⟩:=hd.g ha 5 rfl;exact Qd func46 ha Y (aP hS.inv.nil hr9) hS
 ·refine Qy Y fun a w H_ hle hS ha hd=>?_;obtain⟨_,ha,A3,c3,rfl,hr3⟩:=hd.g ha 0 rfl;obtain⟨_,ha,A5,c5,rfl,hr5⟩:=hd.g ha 1 rfl;obtain⟨_,ha,A10,c10,rfl,hr10⟩:=hd.g ha 6 rfl;have hk13:=fv hS.inv.nil hr3 hr5 hr10;rw [show givesB q0 q1 k2=true from by kernel_rfl] at hk13;refine id (Co func45 ha Y (hk13) ?_);rintro e w ⟨H12,rfl,hc12⟩;refine⟨_,rfl,fun a ha=>?_⟩;have hS:=hS.call hc12;exact qdone hc12.le ha hS Y
 ·refine Qy1 7 rfl fun a w H_ hle hS ha hd=>?_;exact aQ ha Y Y fun a ha=>ql ha hS
 ·refine Qy1 8 rfl fun a w H_ hle hS ha hd=>?_;exact ai ha Y Y fun a ha=>ql ha hS
 ·refine Qg 9 rfl fun a w H_ hle hS ha hd=>?_;exact Qd func39 ha Y (bV (n:=0) hS.inv.nil) hS
 ·refine Qg 9 rfl fun a w H_ hle hS ha hd=>?_;exact Qd func39 ha Y (bV (n:=1) hS.inv.nil) hS
 ·refine Qg 9 rfl fun a w H_ hle hS ha hd=>?_;obtain⟨_,ha,A14,c14,rfl,hr14⟩:=hd.g ha 10 rfl;obtain⟨_,ha,A16,c16,rfl,hr16⟩:=hd.g ha 11 rfl;refine id (aE (vs:= [(0,(tv q0 A14 c14)),(1,(tv q1 A16 c16))]) (cells:= [(iV q0.kind),(iV q0.n),(.string q0.s),(.slice A14 q0.l.length c14),(iV q1.kind),(iV q1.n),(.string q1.s),(.slice A16 q1.l.length c16)]) T22.und T26 hS ha (ha.evp Y) Y Y Y Y fun b18 a w hS ha=>?_);obtain⟨H18,hS,hle18,hb18⟩:=hS.give;have hr14:=hr14.mono hle18;have hr16:=hr16.mono hle18;have hr18: RowT H18 (some ⟨b18,0,none⟩) 2 [q0,q1]:=RowT.of_lit ([⟨q0,A14,c14⟩,⟨q1,A16,c16⟩]: List TV) hb18 (AllR.cons hr14 (AllR.cons hr16 (AllR.nil _))) (by simp) Y;exact qdone hle18 ha hS ⟨_,_,rfl,hr18⟩
 ·refine Qg 9 rfl fun a w H_ hle hS ha hd=>?_;obtain⟨_,ha,A18,c18,rfl,hr18⟩:=hd.g ha 12 rfl;exact Qd func47 ha Y (dU (s:=⟨#[102]⟩) hS.inv.nil hr18) hS
 ·refine Qg 9 rfl fun a w H_ hle hS ha hd=>?_;exact Qd func39 ha Y (bV (n:=1) hS.inv.nil) hS
 ·refine Qg 9 rfl fun a w H_ hle hS ha hd=>?_;exact Qd func23 ha Y (c_a (s:=⟨#[97]⟩) hS.inv.nil) hS
 ·refine Qg 9 rfl fun a w H_ hle hS ha hd=>?_;obtain⟨_,ha,A21,c21,rfl,hr21⟩:=hd.g ha 14 rfl;obtain⟨_,ha,A23,c23,rfl,hr23⟩:=hd.g ha 15 rfl;refine id (aE (vs:= [(0,(tv q1 A21 c21)),(1,(tv q4 A23 c23))]) (cells:= [(iV q1.kind),(iV q1.n),(.string q1.s),(.slice A21 q1.l.length c21),(iV q4.kind),(iV q4.n),(.string q4.s),(.slice A23 q4.l.length c23)]) T22.und T26 hS ha (ha.evp Y) Y Y Y Y fun b25 a w hS ha=>?_);obtain⟨H25,hS,hle25,hb25⟩:=hS.give;have hr21:=hr21.mono hle25;have hr23:=hr23.mono hle25;have hr25: RowT H25 (some ⟨b25,0,none⟩) 2 [q1,q4]:=RowT.of_lit ([⟨q1,A21,c21⟩,⟨q4,A23,c23⟩]: List TV) hb25 (AllR.cons hr21 (AllR.cons hr23 (AllR.nil _))) (by simp) Y;exact qdone hle25 ha hS ⟨_,_,rfl,hr25⟩
 ·refine Qg 9 rfl fun a w H_ hle hS ha hd=>?_;obtain⟨_,ha,A25,c25,rfl,hr25⟩:=hd.g ha 16 rfl;exact Qd func47 ha Y (dU (s:=⟨#[102]⟩) hS.inv.nil hr25) hS
 ·refine Qg 9 rfl fun a w H_ hle hS ha hd=>?_;exact Qd func23 ha Y (c_a (s:=⟨#[97]⟩) hS.inv.nil) hS
 ·refine Qg 9 rfl fun a w H_ hle hS ha hd=>?_;exact Qd func39 ha Y (bV (n:=0) hS.inv.nil) hS
 ·refine Qg 9 rfl fun a w H_ hle hS ha hd=>?_;exact ak (vs:=lZ) T26 Y ha Y (hS.blkL 0 rfl) Y (af Y) Y fun a ha=>ql ha hS
 ·refine Qg 9 rfl fun a w H_ hle hS ha hd=>?_;obtain⟨_,ha,A28,c28,rfl,hr28⟩:=hd.g ha 18 rfl;obtain⟨_,ha,A30,c30,rfl,hr30⟩:=hd.g ha 19 rfl;obtain⟨_,ha,rfl⟩:=hd.g ha 20 rfl;refine id (aE (vs:= [(0,(tv q4 A28 c28)),(1,(tv q0 A30 c30)),(2,vZ)]) (cells:= [(iV q4.kind),(iV q4.n),(.string q4.s),(.slice A28 q4.l.length c28),(iV q0.kind),(iV q0.n),(.string q0.s),(.slice A30 q0.l.length c30),(iV 0),(iV 0),(.string (⟨#[]⟩)),(.slice none 0 0)]) T22.und T26 hS ha (ha.evp Y) Y Y Y Y fun b32 a w hS ha=>?_);obtain⟨H32,hS,hle32,hb32⟩:=hS.give;have hr28:=hr28.mono hle32;have hr30:=hr30.mono hle32;have hr32: RowT H32 (some ⟨b32,0,none⟩) 3 [q4,q0,tZ]:=RowT.of_lit ([⟨q4,A28,c28⟩,⟨q0,A30,c30⟩,⟨tZ,none,0⟩]: List TV) hb32 (AllR.cons hr28 (AllR.cons hr30 (AllR.cons (RowT.nil _) (AllR.nil _)))) (by simp) Y;exact qdone hle32 ha hS ⟨_,_,rfl,hr32⟩
 ·refine Qg 9 rfl fun a w H_ hle hS ha hd=>?_;obtain⟨_,ha,A32,c32,rfl,hr32⟩:=hd.g ha 21 rfl;exact Qd func46 ha Y (aP hS.inv.nil hr32) hS
 ·refine Qg 9 rfl fun a w H_ hle hS ha hd=>?_;obtain⟨_,ha,A19,c19,rfl,hr19⟩:=hd.g ha 13 rfl;obtain⟨_,ha,A26,c26,rfl,hr26⟩:=hd.g ha 17 rfl;obtain⟨_,ha,A33,c33,rfl,hr33⟩:=hd.g ha 22 rfl;have hk36:=fv hS.inv.nil hr19 hr26 hr33;rw [show givesB q3 q5 k6=true from by kernel_rfl] at hk36;refine id (Co func45 ha Y (hk36) ?_);rintro e w ⟨H35,rfl,hc35⟩;refine⟨_,rfl,fun a ha=>?_⟩;have hS:=hS.call hc35;exact qdone hc35.le ha hS Y
 ·refine Qg 9 rfl fun a w H_ hle hS ha hd=>?_;obtain⟨_,ha,rfl⟩:=hd.g ha 23 rfl;exact aQ ha Y Y fun a ha=>ql ha hS
 ·refine Qy1 9 rfl fun a w H_ hle hS ha hd=>?_;obtain⟨_,ha,rfl⟩:=hd.g ha 24 rfl;exact ah ha Y Y Y fun a ha=>ql ha hS
 ·refine Qy1 25 rfl fun a w H_ hle hS ha hd=>?_;exact ai ha Y Y fun a ha=>ql ha hS
 ·refine Qg 26 rfl fun a w H_ hle hS ha hd=>?_;exact Qd func39 ha Y (bV (n:=2) hS.inv.nil) hS
 ·refine Qg 26 rfl fun a w H_ hle hS ha hd=>?_;exact Qd func39 ha Y (bV (n:=1) hS.inv.nil) hS
 ·refine Qg 26 rfl fun a w H_ hle hS ha hd=>?_;obtain⟨_,ha,A37,c37,rfl,hr37⟩:=hd.g ha 27 rfl;obtain⟨_,ha,A39,c39,rfl,hr39⟩:=hd.g ha 28 rfl;refine id (aE (vs:= [(0,(tv q7 A37 c37)),(1,(tv q1 A39 c39))]) (cells:= [(iV q7.kind),(iV q7.n),(.string q7.s),(.slice A37 q7.l.length c37),(iV q1.kind),(iV q1.n),(.string q1.s),(.slice A39 q1.l.length c39)]) T22.und T26 hS ha (ha.evp Y) Y Y Y Y fun b41 a w hS ha=>?_);obtain⟨H41,hS,hle41,hb41⟩:=hS.give;have hr37:=hr37.mono hle41;have hr39:=hr39.mono hle41;have hr41: RowT H41 (some ⟨b41,0,none⟩) 2 [q7,q1]:=RowT.of_lit ([⟨q7,A37,c37⟩,⟨q1,A39,c39⟩]: List TV) hb41 (AllR.cons hr37 (AllR.cons hr39 (AllR.nil _))) (by simp) Y;exact qdone hle41 ha hS ⟨_,_,rfl,hr41⟩
 ·refine Qg 26 rfl fun a w H_ hle hS ha hd=>?_;obtain⟨_,ha,A41,c41,rfl,hr41⟩:=hd.g ha 29 rfl;exact Qd func47 ha Y (dU (s:=⟨#[102]⟩) hS.inv.nil hr41) hS
 ·refine Qg 26 rfl fun a w H_ hle hS ha hd=>?_;exact Qd func39 ha Y (bV (n:=1) hS.inv.nil) hS
 ·refine Qg 26 rfl fun a w H_ hle hS ha hd=>?_;exact Qd func39 ha Y (bV (n:=0) hS.inv.nil) hS
 ·refine Qg 26 rfl fun a w H_ hle hS ha hd=>?_;obtain⟨_,ha,A44,c44,rfl,hr44⟩:=hd.g ha 31 rfl;obtain⟨_,ha,A46,c46,rfl,hr46⟩:=hd.g ha 32 rfl;refine id (aE (vs:= [(0,(tv q1 A44 c44)),(1,(tv q0 A46 c46))]) (cells:= [(iV q1.kind),(iV q1.n),(.string q1.s),(.slice A44 q1.l.length c44),(iV q0.kind),(iV q0.n),(.string q0.s),(.slice A46 q0.l.length c46)]) T22.und T26 hS ha (ha.evp Y) Y Y Y Y fun b48 a w hS ha=>?_);obtain⟨H48,hS,hle48,hb48⟩:=hS.give;have hr44:=hr44.mono hle48;have hr46:=hr46.mono hle48;have hr48: RowT H48 (some ⟨b48,0,none⟩) 2 [q1,q0]:=RowT.of_lit ([⟨q1,A44,c44⟩,⟨q0,A46,c46⟩]: List TV) hb48 (AllR.cons hr44 (AllR.cons hr46 (AllR.nil _))) (by simp) Y;exact qdone hle48 ha hS ⟨_,_,rfl,hr48⟩
 ·refine Qg 26 rfl fun a w H_ hle hS ha hd=>?_;obtain⟨_,ha,A48,c48,rfl,hr48⟩:=hd.g ha 33 rfl;exact Qd func47 ha Y (dU (s:=⟨#[102]⟩) hS.inv.nil hr48) hS
 ·refine Qg 26 rfl fun a w H_ hle hS ha hd=>?_;exact ak (vs:=lZ) T26 Y ha Y (hS.blkL 0 rfl) Y (af Y) Y fun a ha=>ql ha hS
 ·refine Qg 26 rfl fun a w H_ hle hS ha hd=>?_;exact Qd func39 ha Y (bV (n:=0) hS.inv.nil) hS
 ·refine Qg 26 rfl fun a w H_ hle hS ha hd=>?_;exact Qd func39 ha Y (bV (n:=1) hS.inv.nil) hS
 ·refine Qg 26 rfl fun a w H_ hle hS ha hd=>?_;obtain⟨_,ha,rfl⟩:=hd.g ha 35 rfl;obtain⟨_,ha,A51,c51,rfl,hr51⟩:=hd.g ha 36 rfl;obtain⟨_,ha,A53,c53,rfl,hr53⟩:=hd.g ha 37 rfl;refine id (aE (vs:= [(0,vZ),(1,(tv q0 A51 c51)),(2,(tv q1 A53 c53))]) (cells:= [(iV 0),(iV 0),(.string (⟨#[]⟩)),(.slice none 0 0),(iV q0.kind),(iV q0.n),(.string q0.s),(.slice A51 q0.l.length c51),(iV q1.kind),(iV q1.n),(.string q1.s),(.slice A53 q1.l.length c53)]) T22.und T26 hS ha (ha.evp Y) Y Y Y Y fun b55 a w hS ha=>?_);obtain⟨H55,hS,hle55,hb55⟩:=hS.give;have hr51:=hr51.mono hle55;have hr53:=hr53.mono hle55;have hr55: RowT H55 (some ⟨b55,0,none⟩) 3 [tZ,q0,q1]:=RowT.of_lit ([⟨tZ,none,0⟩,⟨q0,A51,c51⟩,⟨q1,A53,c53⟩]: List TV) hb55 (AllR.cons (RowT.nil _) (AllR.cons hr51 (AllR.cons hr53 (AllR.nil _)))) (by simp) Y;exact qdone hle55 ha hS ⟨_,_,rfl,hr55⟩
 ·refine Qg 26 rfl fun a w H_ hle hS ha hd=>?_;obtain⟨_,ha,A55,c55,rfl,hr55⟩:=hd.g ha 38 rfl;exact Qd func46 ha Y (aP hS.inv.nil hr55) hS
 ·refine Qg 26 rfl fun a w H_ hle hS ha hd=>?_;obtain⟨_,ha,A42,c42,rfl,hr42⟩:=hd.g ha 30 rfl;obtain⟨_,ha,A49,c49,rfl,hr49⟩:=hd.g ha 34 rfl;obtain⟨_,ha,A56,c56,rfl,hr56⟩:=hd.g ha 39 rfl;have hk59:=fv hS.inv.nil hr42 hr49 hr56;rw [show givesB q8 q9 k10=true from by kernel_rfl] at hk59;refine id (Co func45 ha Y (hk59) ?_);rintro e w ⟨H58,rfl,hc58⟩;refine⟨_,rfl,fun a ha=>?_⟩;have hS:=hS.call hc58;exact qdone hc58.le ha hS Y
 ·refine Qg 26 rfl fun a w H_ hle hS ha hd=>?_;obtain⟨_,ha,rfl⟩:=hd.g ha 40 rfl;exact aQ ha Y Y fun a ha=>ql ha hS
 ·refine Qy1 26 rfl fun a w H_ hle hS ha hd=>?_;obtain⟨_,ha,rfl⟩:=hd.g ha 41 rfl;exact ah ha Y Y Y fun a ha=>ql ha hS
 ·refine Qy1 42 rfl fun a w H_ hle hS ha hd=>?_;exact ai ha Y Y fun a ha=>ql ha hS
 ·refine Qg 43 rfl fun a w H_ hle hS ha hd=>?_;exact Qd func39 ha Y (bV (n:=0) hS.inv.nil) hS
 ·refine Qg 43 rfl fun a w H_ hle hS ha hd=>?_;exact Qd func39 ha Y (bV (n:=0) hS.inv.nil) hS
 ·refine Qg 43 rfl fun a w H_ hle hS ha hd=>?_;obtain⟨_,ha,A62,c62,rfl,hr62⟩:=hd.g ha 45 rfl;refine id (aE (vs:= [(0,(tv q0 A62 c62))]) (cells:=(tL q0 A62 c62)) T22.und T26 hS ha (ha.evp Y) Y Y Y Y fun b64 a w hS ha=>?_);obtain⟨H64,hS,hle64,hb64⟩:=hS.give;have hr62:=hr62.mono hle64;have hr64: RowT H64 (some ⟨b64,0,none⟩) 1 [q0]:=RowT.of_lit ([⟨q0,A62,c62⟩]: List TV) hb64 (AllR.cons hr62 (AllR.nil _)) (by simp) Y;exact qdone hle64 ha hS ⟨_,_,rfl,hr64⟩
 ·refine Qg 43 rfl fun a w H_ hle hS ha hd=>?_;obtain⟨_,ha,A64,c64,rfl,hr64⟩:=hd.g ha 46 rfl;exact Qd func47 ha Y (dU (s:=⟨#[102]⟩) hS.inv.nil hr64) hS
 ·refine Qg 43 rfl fun a w H_ hle hS ha hd=>?_;obtain⟨_,ha,A60,c60,rfl,hr60⟩:=hd.g ha 44 rfl;obtain⟨_,ha,A65,c65,rfl,hr65⟩:=hd.g ha 47 rfl;have hk68:=fi hS.inv.nil hr60 hr65;rw [show failsB q0 q11=true from by kernel_rfl] at hk68;refine id (Co func48 ha Y (hk68) ?_);rintro e w ⟨H67,rfl,hc67⟩;refine⟨_,rfl,fun a ha=>?_⟩;have hS:=hS.call hc67;exact qdone hc67.le ha hS Y
 ·refine Qg 43 rfl fun a w H_ hle hS ha hd=>?_;obtain⟨_,ha,rfl⟩:=hd.g ha 48 rfl;exact aQ ha Y Y fun a ha=>ql ha hS
 ·refine Qy1 43 rfl fun a w H_ hle hS ha hd=>?_;obtain⟨_,ha,rfl⟩:=hd.g ha 49 rfl;exact ah ha Y Y Y fun a ha=>ql ha hS
 ·refine Qy1 50 rfl fun a w H_ hle hS ha hd=>?_;exact ai ha Y Y fun a ha=>ql ha hS
 ·refine Qg 51 rfl fun a w H_ hle hS ha hd=>?_;exact Qd func39 ha Y (bV (n:=0) hS.inv.nil) hS
 ·refine Qg 51 rfl fun a w H_ hle hS ha hd=>?_;exact Qd func39 ha Y (bV (n:=1) hS.inv.nil) hS
 ·refine Qg 51 rfl fun a w H_ hle hS ha hd=>?_;obtain⟨_,ha,A69,c69,rfl,hr69⟩:=hd.g ha 52 rfl;obtain⟨_,ha,A71,c71,rfl,hr71⟩:=hd.g ha 53 rfl;refine id (aE (vs:= [(0,(tv q0 A69 c69)),(1,(tv q1 A71 c71))]) (cells:= [(iV q0.kind),(iV q0.n),(.string q0.s),(.slice A69 q0.l.length c69),(iV q1.kind),(iV q1.n),(.string q1.s),(.slice A71 q1.l.length c71)]) T22.und T26 hS ha (ha.evp Y) Y Y Y Y fun b73 a w hS ha=>?_);obtain⟨H73,hS,hle73,hb73⟩:=hS.give;have hr69:=hr69.mono hle73;have hr71:=hr71.mono hle73;have hr73: RowT H73 (some ⟨b73,0,none⟩) 2 [q0,q1]:=RowT.of_lit ([⟨q0,A69,c69⟩,⟨q1,A71,c71⟩]: List TV) hb73 (AllR.cons hr69 (AllR.cons hr71 (AllR.nil _))) (by simp) Y;exact qdone hle73 ha hS ⟨_,_,rfl,hr73⟩
 ·refine Qg 51 rfl fun a w H_ hle hS ha hd=>?_;obtain⟨_,ha,A73,c73,rfl,hr73⟩:=hd.g ha 54 rfl;exact Qd func47 ha Y (dU (s:=⟨#[102]⟩) hS.inv.nil hr73) hS
 ·refine Qg 51 rfl fun a w H_ hle hS ha hd=>?_;exact Qd func39 ha Y (bV (n:=1) hS.inv.nil) hS
 ·refine Qg 51 rfl fun a w H_ hle hS ha hd=>?_;obtain⟨_,ha,A76,c76,rfl,hr76⟩:=hd.g ha 56 rfl;refine id (aE (vs:= [(0,(tv q1 A76 c76))]) (cells:=(tL q1 A76 c76)) T22.und T26 hS ha (ha.evp Y) Y Y Y Y fun b78 a w hS ha=>?_);obtain⟨H78,hS,hle78,hb78⟩:=hS.give;have hr76:=hr76.mono hle78;have hr78: RowT H78 (some ⟨b78,0,none⟩) 1 [q1]:=RowT.of_lit ([⟨q1,A76,c76⟩]: List TV) hb78 (AllR.cons hr76 (AllR.nil _)) (by simp) Y;exact qdone hle78 ha hS ⟨_,_,rfl,hr78⟩
 ·refine Qg 51 rfl fun a w H_ hle hS ha hd=>?_;obtain⟨_,ha,A78,c78,rfl,hr78⟩:=hd.g ha 57 rfl;exact Qd func47 ha Y (dU (s:=⟨#[103]⟩) hS.inv.nil hr78) hS
 ·refine Qg 51 rfl fun a w H_ hle hS ha hd=>?_;exact Qd func39 ha Y (bV (n:=0) hS.inv.nil) hS
 ·refine Qg 51 rfl fun a w H_ hle hS ha hd=>?_;obtain⟨_,ha,A81,c81,rfl,hr81⟩:=hd.g ha 59 rfl;refine id (aE (vs:= [(0,(tv q0 A81 c81))]) (cells:=(tL q0 A81 c81)) T22.und T26 hS ha (ha.evp Y) Y Y Y Y fun b83 a w hS ha=>?_);obtain⟨H83,hS,hle83,hb83⟩:=hS.give;have hr81:=hr81.mono hle83;have hr83: RowT H83 (some ⟨b83,0,none⟩) 1 [q0]:=RowT.of_lit ([⟨q0,A81,c81⟩]: List TV) hb83 (AllR.cons hr81 (AllR.nil _)) (by simp) Y;exact qdone hle83 ha hS ⟨_,_,rfl,hr83⟩
 ·refine Qg 51 rfl fun a w H_ hle hS ha hd=>?_;obtain⟨_,ha,A83,c83,rfl,hr83⟩:=hd.g ha 60 rfl;exact Qd func47 ha Y (dU (s:=⟨#[103]⟩) hS.inv.nil hr83) hS
 ·refine Qg 51 rfl fun a w H_ hle hS ha hd=>?_;obtain⟨_,ha,A79,c79,rfl,hr79⟩:=hd.g ha 58 rfl;obtain⟨_,ha,A84,c84,rfl,hr84⟩:=hd.g ha 61 rfl;refine id (aE (vs:= [(0,(tv q12 A79 c79)),(1,(tv q13 A84 c84))]) (cells:= [(iV q12.kind),(iV q12.n),(.string q12.s),(.slice A79 q12.l.length c79),(iV q13.kind),(iV q13.n),(.string q13.s),(.slice A84 q13.l.length c84)]) T22.und T26 hS ha (ha.evp Y) Y Y Y Y fun b86 a w hS ha=>?_);obtain⟨H86,hS,hle86,hb86⟩:=hS.give;have hr79:=hr79.mono hle86;have hr84:=hr84.mono hle86;have hr86: RowT H86 (some ⟨b86,0,none⟩) 2 [q12,q13]:=RowT.of_lit ([⟨q12,A79,c79⟩,⟨q13,A84,c84⟩]: List TV) hb86 (AllR.cons hr79 (AllR.cons hr84 (AllR.nil _))) (by simp) Y;exact qdone hle86 ha hS ⟨_,_,rfl,hr86⟩
 ·refine Qg 51 rfl fun a w H_ hle hS ha hd=>?_;obtain⟨_,ha,A86,c86,rfl,hr86⟩:=hd.g ha 62 rfl;exact Qd func47 ha Y (dU (s:=⟨#[102]⟩) hS.inv.nil hr86) hS
 ·refine Qg 51 rfl fun a w H_ hle hS ha hd=>?_;obtain⟨_,ha,A74,c74,rfl,hr74⟩:=hd.g ha 55 rfl;obtain⟨_,ha,A87,c87,rfl,hr87⟩:=hd.g ha 63 rfl;have hk90:=fi hS.inv.nil hr74 hr87;rw [show failsB q3 q14=true from by kernel_rfl] at hk90;refine id (Co func48 ha Y (hk90) ?_);rintro e w ⟨H89,rfl,hc89⟩;refine⟨_,rfl,fun a ha=>?_⟩;have hS:=hS.call hc89;exact qdone hc89.le ha hS Y
 ·refine Qg 51 rfl fun a w H_ hle hS ha hd=>?_;obtain⟨_,ha,rfl⟩:=hd.g ha 64 rfl;exact aQ ha Y Y fun a ha=>ql ha hS
 ·refine Qy1 51 rfl fun a w H_ hle hS ha hd=>?_;obtain⟨_,ha,rfl⟩:=hd.g ha 65 rfl;exact ah ha Y Y Y fun a ha=>ql ha hS
 ·refine Qy1 66 rfl fun a w H_ hle hS ha hd=>?_;exact ai ha Y Y fun a ha=>ql ha hS
 ·refine Qg 67 rfl fun a w H_ hle hS ha hd=>?_;exact Qd func39 ha Y (bV (n:=0) hS.inv.nil) hS
 ·refine Qg 67 rfl fun a w H_ hle hS ha hd=>?_;obtain⟨_,ha,A91,c91,rfl,hr91⟩:=hd.g ha 68 rfl;refine id (aE (vs:= [(0,(tv q0 A91 c91))]) (cells:=(tL q0 A91 c91)) T22.und T26 hS ha (ha.evp Y) Y Y Y Y fun b93 a w hS ha=>?_);obtain⟨H93,hS,hle93,hb93⟩:=hS.give;have hr91:=hr91.mono hle93;have hr93: RowT H93 (some ⟨b93,0,none⟩) 1 [q0]:=RowT.of_lit ([⟨q0,A91,c91⟩]: List TV) hb93 (AllR.cons hr91 (AllR.nil _)) (by simp) Y;exact qdone hle93 ha hS ⟨_,_,rfl,hr93⟩
 ·refine Qg 67 rfl fun a w H_ hle hS ha hd=>?_;obtain⟨_,ha,A93,c93,rfl,hr93⟩:=hd.g ha 69 rfl;exact Qd func47 ha Y (dU (s:=⟨#[102]⟩) hS.inv.nil hr93) hS
 ·refine Qg 67 rfl fun a w H_ hle hS ha hd=>?_;exact Qd func39 ha Y (bV (n:=0) hS.inv.nil) hS
 ·refine Qg 67 rfl fun a w H_ hle hS ha hd=>?_;obtain⟨_,ha,A96,c96,rfl,hr96⟩:=hd.g ha 71 rfl;refine id (aE (vs:= [(0,(tv q0 A96 c96))]) (cells:=(tL q0 A96 c96)) T22.und T26 hS ha (ha.evp Y) Y Y Y Y fun b98 a w hS ha=>?_);obtain⟨H98,hS,hle98,hb98⟩:=hS.give;have hr96:=hr96.mono hle98;have hr98: RowT H98 (some ⟨b98,0,none⟩) 1 [q0]:=RowT.of_lit ([⟨q0,A96,c96⟩]: List TV) hb98 (AllR.cons hr96 (AllR.nil _)) (by simp) Y;exact qdone hle98 ha hS ⟨_,_,rfl,hr98⟩
 ·refine Qg 67 rfl fun a w H_ hle hS ha hd=>?_;obtain⟨_,ha,A98,c98,rfl,hr98⟩:=hd.g ha 72 rfl;exact Qd func47 ha Y (dU (s:=⟨#[103]⟩) hS.inv.nil hr98) hS
 ·refine Qg 67 rfl fun a w H_ hle hS ha hd=>?_;obtain⟨_,ha,A94,c94,rfl,hr94⟩:=hd.g ha 70 rfl;obtain⟨_,ha,A99,c99,rfl,hr99⟩:=hd.g ha 73 rfl;have hk102:=fi hS.inv.nil hr94 hr99;rw [show failsB q11 q13=true from by kernel_rfl] at hk102;refine id (Co func48 ha Y (hk102) ?_);rintro e w ⟨H101,rfl,hc101⟩;refine⟨_,rfl,fun a ha=>?_⟩;have hS:=hS.call hc101;exact qdone hc101.le ha hS Y
 ·refine Qg 67 rfl fun a w H_ hle hS ha hd=>?_;obtain⟨_,ha,rfl⟩:=hd.g ha 74 rfl;exact aQ ha Y Y fun a ha=>ql ha hS
 ·refine Qy1 67 rfl fun a w H_ hle hS ha hd=>?_;obtain⟨_,ha,rfl⟩:=hd.g ha 75 rfl;exact ah ha Y Y Y fun a ha=>ql ha hS
 obtain⟨_,ha,rfl⟩:=Dd ha hdr_ 76 rfl;refine aa (am ha Y (wp_skip (aa (wp_seq ?_))));have hS_:=hS;refine As.c_draw_head (ini:=(As.il [])) (sup:=(As.sl [])) (als:= [11]) (s0:=⟨H103,fun _=>none⟩) (L:= [(some b1,(.cells aZ 26 (0,0)))]) (N:=386) (E:= [(1,(pB b1))]) 12 [FcV vZ,As.lf (FcT q0),As.lf (FcT q0),As.lf (fun H v=> ∃ A c,v=.slice A 2 c∧RowT H A c [q0,q0]),As.lf (FcT q15),As.lf (FcT q1),As.lf (FcT q1),As.lf (fun H v=> ∃ A c,v=.slice A 2 c∧RowT H A c [q1,q1]),As.lf (FcT q16),As.lf (fun H v=> ∃ A c,v=.slice A 3 c∧RowT H A c [tZ,q15,q16]),As.lf (fun H v=> ∃ A c,v=(.agg #[(.slice A k17.length c)])∧RowT H A c k17),fun s v=> ∃ b,s.ax 11=some [(some b,(.cells #[(.slice none 0 0)] 24 (0,0)))]∧v=.pointer (some ⟨b,0,none⟩)] mixed (by kernel_rfl) (by kernel_rfl) (by kernel_rfl) (by repeat' (first | exact As.Monos.nil | refine As.Monos.cons ?_ ?_ |(intro _ _ _ hl h;exact h) |(rintro _ _ _ hl ⟨A,c,h,hr⟩;exact⟨A,c,h,hr.mono hl.le⟩) |(rintro _ _ _ hl ⟨b,h,hb⟩;exact⟨b,h,hl.le _ _ hb⟩) | exact fun _ _ _ hl ⟨b,h,e⟩=>⟨b,hl.get h,e⟩)) (fun _=>rfl) hS (ha.pk Y) (As.QuietsI.c4 ?_ ?_ ?_ ?_ (As.QuietsI.c4 ?_ ?_ ?_ ?_ (As.QuietsI.c4 ?_ ?_ ?_ ?_ (As.QuietsI.nil)))) (fun f_ a w s_ hls hS ha hdr_=>?_)
 ·refine As.Qx Y fun a w H_ ax_ hle hax_ hS ha hd hls=>?_;have hSf:=hS;have hS:=Step.dropN _ _ hS;exact ak (vs:=lZ) T26 Y ha Y (hS.blkL 0 rfl) Y (af Y) Y fun a ha=>As.ql ha hSf
 ·refine As.Qx Y fun a w H_ ax_ hle hax_ hS ha hd hls=>?_;have hSf:=hS;have hSr:=Step.dropN _ _ hS;have hk105:=bV (n:=0) hS.inv.nil;refine id (Co func39 ha Y (hk105) ?_);rintro e w ⟨H104,A104,c104,rfl,hr104,hc104⟩;refine⟨_,rfl,fun a ha=>?_⟩;have hS:=hS.call hc104;exact As.qdone (s:=⟨H_,ax_⟩) hc104.le ha hS ⟨A104,c104,rfl,hr104⟩
 ·refine As.Qx Y fun a w H_ ax_ hle hax_ hS ha hd hls=>?_;have hSf:=hS;have hSr:=Step.dropN _ _ hS;have hk107:=bV (n:=0) hS.inv.nil;refine id (Co func39 ha Y (hk107) ?_);rintro e w ⟨H106,A106,c106,rfl,hr106,hc106⟩;refine⟨_,rfl,fun a ha=>?_⟩;have hS:=hS.call hc106;exact As.qdone (s:=⟨H_,ax_⟩) hc106.le ha hS ⟨A106,c106,rfl,hr106⟩
 ·refine As.Qx Y fun a w H_ ax_ hle hax_ hS ha hd hls=>?_;obtain⟨_,ha,A104,c104,rfl,hr104⟩:=hd.g ha 1 rfl;obtain⟨_,ha,A106,c106,rfl,hr106⟩:=hd.g ha 2 rfl;have hSf:=hS;have hSr:=Step.dropN _ _ hS;refine id (aE (vs:= [(0,(tv q0 A104 c104)),(1,(tv q0 A106 c106))]) (cells:= [(iV q0.kind),(iV q0.n),(.string q0.s),(.slice A104 q0.l.length c104),(iV q0.kind),(iV q0.n),(.string q0.s),(.slice A106 q0.l.length c106)]) T22.und T26 hS ha (ha.evp Y) Y Y Y Y fun b108 a w hS ha=>?_);obtain⟨H108,hS,hle108,hb108⟩:=hS.give;have hr104:=hr104.mono hle108;have hr106:=hr106.mono hle108;have hr108: RowT H108 (some ⟨b108,0,none⟩) 2 [q0,q0]:=RowT.of_lit ([⟨q0,A104,c104⟩,⟨q0,A106,c106⟩]: List TV) hb108 (AllR.cons hr104 (AllR.cons hr106 (AllR.nil _))) (by simp) Y;exact As.qdone (s:=⟨H_,ax_⟩) hle108 ha hS ⟨_,_,rfl,hr108⟩
 ·refine As.Qx Y fun a w H_ ax_ hle hax_ hS ha hd hls=>?_;obtain⟨_,ha,A108,c108,rfl,hr108⟩:=hd.g ha 3 rfl;have hSf:=hS;have hSr:=Step.dropN _ _ hS;have hk110:=dU (s:=⟨#[102]⟩) hS.inv.nil hr108;refine id (Co func47 ha Y (hk110) ?_);rintro e w ⟨H109,A109,c109,rfl,hr109,hc109⟩;refine⟨_,rfl,fun a ha=>?_⟩;have hS:=hS.call hc109;exact As.qdone (s:=⟨H_,ax_⟩) hc109.le ha hS ⟨A109,c109,rfl,hr109⟩
 ·refine As.Qx Y fun a w H_ ax_ hle hax_ hS ha hd hls=>?_;have hSf:=hS;have hSr:=Step.dropN _ _ hS;have hk112:=bV (n:=1) hS.inv.nil;refine id (Co func39 ha Y (hk112) ?_);rintro e w ⟨H111,A111,c111,rfl,hr111,hc111⟩;refine⟨_,rfl,fun a ha=>?_⟩;have hS:=hS.call hc111;exact As.qdone (s:=⟨H_,ax_⟩) hc111.le ha hS ⟨A111,c111,rfl,hr111⟩
 ·refine As.Qx Y fun a w H_ ax_ hle hax_ hS ha hd hls=>?_;have hSf:=hS;have hSr:=Step.dropN _ _ hS;have hk114:=bV (n:=1) hS.inv.nil;refine id (Co func39 ha Y (hk114) ?_);rintro e w ⟨H113,A113,c113,rfl,hr113,hc113⟩;refine⟨_,rfl,fun a ha=>?_⟩;have hS:=hS.call hc113;exact As.qdone (s:=⟨H_,ax_⟩) hc113.le ha hS ⟨A113,c113,rfl,hr113⟩
 ·refine As.Qx Y fun a w H_ ax_ hle hax_ hS ha hd hls=>?_;obtain⟨_,ha,A111,c111,rfl,hr111⟩:=hd.g ha 5 rfl;obtain⟨_,ha,A113,c113,rfl,hr113⟩:=hd.g ha 6 rfl;have hSf:=hS;have hSr:=Step.dropN _ _ hS;refine id (aE (vs:= [(0,(tv q1 A111 c111)),(1,(tv q1 A113 c113))]) (cells:= [(iV q1.kind),(iV q1.n),(.string q1.s),(.slice A111 q1.l.length c111),(iV q1.kind),(iV q1.n),(.string q1.s),(.slice A113 q1.l.length c113)]) T22.und T26 hS ha (ha.evp Y) Y Y Y Y fun b115 a w hS ha=>?_);obtain⟨H115,hS,hle115,hb115⟩:=hS.give;have hr111:=hr111.mono hle115;have hr113:=hr113.mono hle115;have hr115: RowT H115 (some ⟨b115,0,none⟩) 2 [q1,q1]:=RowT.of_lit ([⟨q1,A111,c111⟩,⟨q1,A113,c113⟩]: List TV) hb115 (AllR.cons hr111 (AllR.cons hr113 (AllR.nil _))) (by simp) Y;exact As.qdone (s:=⟨H_,ax_⟩) hle115 ha hS ⟨_,_,rfl,hr115⟩
 ·refine As.Qx Y fun a w H_ ax_ hle hax_ hS ha hd hls=>?_;obtain⟨_,ha,A115,c115,rfl,hr115⟩:=hd.g ha 7 rfl;have hSf:=hS;have hSr:=Step.dropN _ _ hS;have hk117:=dU (s:=⟨#[102]⟩) hS.inv.nil hr115;refine id (Co func47 ha Y (hk117) ?_);rintro e w ⟨H116,A116,c116,rfl,hr116,hc116⟩;refine⟨_,rfl,fun a ha=>?_⟩;have hS:=hS.call hc116;exact As.qdone (s:=⟨H_,ax_⟩) hc116.le ha hS ⟨A116,c116,rfl,hr116⟩
 ·refine As.Qx1 0 rfl fun a w H_ ax_ hle hax_ hS ha hd hls=>?_;obtain⟨_,ha,A109,c109,rfl,hr109⟩:=hd.g ha 4 rfl;obtain⟨_,ha,A116,c116,rfl,hr116⟩:=hd.g ha 8 rfl;have hSf:=hS;have hSr:=Step.dropN _ _ hS;refine id (aE (vs:= [(0,vZ),(1,(tv q15 A109 c109)),(2,(tv q16 A116 c116))]) (cells:= [(iV 0),(iV 0),(.string (⟨#[]⟩)),(.slice none 0 0),(iV q15.kind),(iV q15.n),(.string q15.s),(.slice A109 q15.l.length c109),(iV q16.kind),(iV q16.n),(.string q16.s),(.slice A116 q16.l.length c116)]) T22.und T26 hS ha (ha.evp Y) Y Y Y Y fun b118 a w hS ha=>?_);obtain⟨H118,hS,hle118,hb118⟩:=hS.give;have hr109:=hr109.mono hle118;have hr116:=hr116.mono hle118;have hr118: RowT H118 (some ⟨b118,0,none⟩) 3 [tZ,q15,q16]:=RowT.of_lit ([⟨tZ,none,0⟩,⟨q15,A109,c109⟩,⟨q16,A116,c116⟩]: List TV) hb118 (AllR.cons (RowT.nil _) (AllR.cons hr109 (AllR.cons hr116 (AllR.nil _)))) (by simp) Y;exact As.qdone (s:=⟨H_,ax_⟩) hle118 ha hS ⟨_,_,rfl,hr118⟩
 ·refine As.Qx Y fun a w H_ ax_ hle hax_ hS ha hd hls=>?_;obtain⟨_,ha,A118,c118,rfl,hr118⟩:=hd.g ha 9 rfl;have hSf:=hS;have hSr:=Step.dropN _ _ hS;have hk120:=aP hS.inv.nil hr118;refine id (Co func46 ha Y (hk120) ?_);rintro e w ⟨H119,A119,c119,rfl,hr119,hc119⟩;refine⟨_,rfl,fun a ha=>?_⟩;have hS:=hS.call hc119;exact As.qdone (s:=⟨H_,ax_⟩) hc119.le ha hS ⟨A119,c119,rfl,hr119⟩
 ·refine As.Qx Y fun a w H_ ax_ hle hax_ hS ha hd hls=>?_;have hS: Step w0 H [] w H_ ((As.aents (As.il []) (As.sl []) [] ax_++As.aents (As.il []) (As.sl []) [] ax_++ [(some b1,(.cells aZ 26 (0,0)))])):=As.opn (s:=⟨H_,ax_⟩) [] [11] [] [] rfl (As.con0 hax_ Y) hS;refine aC (cs:= #[(.slice none 0 0)]) T24 hS ha Y Y fun ab121 a w hS ha=>?_;exact As.qown (i:=11) (dst:=some 2) (s:=⟨H_,ax_⟩) (E:= [(some ab121,(.cells #[(.slice none 0 0)] 24 (0,0)))]) [] [11] [] rfl Y hax_ (Le.refl _) ha.dfr (As.has_at ha) hS As.con1 ⟨ab121,rfl,rfl⟩
 obtain⟨H123,ax_⟩:=s_;have hle123: Le H103 H123:=hls.le;dsimp only at hdr_ hS;obtain⟨_,ha,A119,c119,rfl,hr119⟩:=As.Dd ha hdr_ 10 rfl;obtain⟨_,ha,ab121,hx_ab121,rfl⟩:=As.Dd ha hdr_ 11 rfl;have hx_ab121: ax_ 11=some [(some ab121,(.cells #[(.slice none 0 0)] 24 (0,0)))]:=hx_ab121;have hS: Step w0 H [] w H123 [(some ab121,(.cells #[(.slice none 0 0)] 24 (0,0))),(some b1,(.cells aZ 26 (0,0)))]:=by
  have h_:=hS;unfold As.aents at h_;simp only [List.flatMap_cons,List.flatMap_nil,As.conE,show (As.sl []) 11=none from rfl,hx_ab121,Option.isSome_some,Option.getD_some,cond_true,cond_false,List.cons_append,List.nil_append,List.append_nil] at h_;exact h_
 refine any1 (i:=12) (by kernel_rfl) Y Y (aw (cs':= #[(.slice A119 k17.length c119)]) T24 hS (i:=0) Y ha Y Y Y Y Y Y fun a w hS ha=>?_);refine any0 (by kernel_rfl) ?_;refine aa (wp_seq ?_);have hS_:=hS;refine As.c_draw_head (ini:=(As.il [])) (sup:=(As.sl [(6,7)])) (als:= [6,7]) (s0:=⟨H123,fun _=>none⟩) (L:= [(some ab121,(.cells #[(.slice A119 k17.length c119)] 24 (0,0))),(some b1,(.cells aZ 26 (0,0)))]) (N:=386) (E:= [(1,(pB b1)),(2,(pB ab121))]) 8 [FcV (.agg #[(.slice A119 k17.length c119)]),As.lf (FcT q7),As.lf (fun H v=> ∃ A c,v=(.tuple #[(tv q18 A c),(iV 0)])∧RowT H A c q18.l),As.lf (fun H v=> ∃ A c,v=(.tuple #[(tv q18 A c),(iV 0)])∧RowT H A c q18.l),As.lf (FcT q18),FcV (iV 0),fun s v=> ∃ b,s.ax 6=some [(some b,(.cells aZ 26 (0,0)))]∧v=.pointer (some ⟨b,0,none⟩),fun s _=> ∃(b: Nat) (A: Option Addr) (c: Nat),s.ax 6=some [(some b,(.cells aZ 26 (0,0)))]∧s.ax 7=some [(some b,(.cells (tA q18 A c) 26 (0,0)))]∧RowT s.H A c q18.l] mixed (by kernel_rfl) (by kernel_rfl) (by kernel_rfl) (by repeat' (first | exact As.Monos.nil | refine As.Monos.cons ?_ ?_ |(intro _ _ _ hl h;exact h) |(rintro _ _ _ hl ⟨A,c,h,hr⟩;exact⟨A,c,h,hr.mono hl.le⟩) |(rintro _ _ _ hl ⟨b,h,hb⟩;exact⟨b,h,hl.le _ _ hb⟩) | exact fun _ _ _ hl ⟨b,A,c,h1,h2,hr⟩=>⟨b,A,c,hl.get h1,hl.get h2,hr.mono hl.le⟩ | exact fun _ _ _ hl ⟨b,h,e⟩=>⟨b,hl.get h,e⟩)) (fun _=>rfl) hS (ha.pk Y) (As.QuietsI.c4 ?_ ?_ ?_ ?_ (As.QuietsI.c4 ?_ ?_ ?_ ?_ (As.QuietsI.nil))) (fun f_ a w s_ hls hS ha hdr_=>?_)
 ·refine As.Qx Y fun a w H_ ax_ hle hax_ hS ha hd hls=>?_;have hSf:=hS;have hS:=Step.dropN _ _ hS;exact ak (vs:= [(.slice A119 k17.length c119)]) T24 Y ha Y (hS.blkL 0 rfl) Y (af Y) Y fun a ha=>As.ql ha hSf
 ·refine As.Qx Y fun a w H_ ax_ hle hax_ hS ha hd hls=>?_;have hSf:=hS;have hSr:=Step.dropN _ _ hS;have hk125:=bV (n:=2) hS.inv.nil;refine id (Co func39 ha Y (hk125) ?_);rintro e w ⟨H124,A124,c124,rfl,hr124,hc124⟩;refine⟨_,rfl,fun a ha=>?_⟩;have hS:=hS.call hc124;exact As.qdone (s:=⟨H_,ax_⟩) hc124.le ha hS ⟨A124,c124,rfl,hr124⟩
 ·refine As.Qx1 0 rfl fun a w H_ ax_ hle hax_ hS ha hd hls=>?_;obtain⟨_,ha,A124,c124,rfl,hr124⟩:=hd.g ha 1 rfl;have hr119:=hr119.mono hle;have hSf:=hS;have hSr:=Step.dropN _ _ hS;have hk127:=c_Value hS.inv.nil hr119 hr124;rw [show (valU k17 q7).2=0 from by kernel_rfl] at hk127;refine id (Co func38 ha Y (hk127) ?_);rintro e w ⟨H126,A126,c126,rfl,hr126,hc126⟩;refine⟨_,rfl,fun a ha=>?_⟩;have hS:=hS.call hc126;exact As.qdone (s:=⟨H_,ax_⟩) hc126.le ha hS ⟨A126,c126,rfl,hr126⟩
 ·refine As.Qx Y fun a w H_ ax_ hle hax_ hS ha hd hls=>?_;obtain⟨_,ha,A126,c126,rfl,hr126⟩:=hd.g ha 2 rfl;have hSf:=hS;refine id (ai ha Y Y fun a ha=>?_);exact As.qdone (s:=⟨H_,ax_⟩) (Le.refl _) ha hSf ⟨A126,c126,rfl,hr126⟩
 ·refine As.Qx Y fun a w H_ ax_ hle hax_ hS ha hd hls=>?_;obtain⟨_,ha,A126,c126,rfl,hr126⟩:=hd.g ha 3 rfl;have hSf:=hS;refine id (ap (v:=(tv q18 A126 c126)) ha Y Y Y fun a ha=>?_);exact As.qdone (s:=⟨H_,ax_⟩) (Le.refl _) ha hSf ⟨A126,c126,rfl,hr126⟩
 ·refine As.Qx Y fun a w H_ ax_ hle hax_ hS ha hd hls=>?_;obtain⟨_,ha,A126,c126,rfl,hr126⟩:=hd.g ha 3 rfl;have hSf:=hS;exact ap (v:=(iV 0)) ha Y Y Y fun a ha=>As.ql ha hSf
 ·refine As.Qx Y fun a w H_ ax_ hle hax_ hS ha hd hls=>?_;have hS: Step w0 H [] w H_ ((As.aents (As.il []) (As.sl [(6,7)]) [] ax_++As.aents (As.il []) (As.sl [(6,7)]) [7] ax_++ [(some ab121,(.cells #[(.slice A119 k17.length c119)] 24 (0,0))),(some b1,(.cells aZ 26 (0,0)))])):=As.opn (s:=⟨H_,ax_⟩) [] [6] [7] [] rfl (As.con0 hax_ Y) hS;refine aC (cs:=aZ) T26 hS ha Y Y fun ab128 a w hS ha=>?_;exact As.qown (i:=6) (dst:=some 3) (s:=⟨H_,ax_⟩) (E:= [(some ab128,(.cells aZ 26 (0,0)))]) [] [6] [7] rfl Y hax_ (Le.refl _) ha.dfr (As.has_at ha) hS As.con1 ⟨ab128,rfl,rfl⟩
 ·refine As.Qx Y fun a w H_ ax_ hle hax_ hS ha hd hls=>?_;obtain⟨_,ha,ab128,hx_ab128,rfl⟩:=hd.g ha 6 rfl;have hx_ab128: ax_ 6=some [(some ab128,(.cells aZ 26 (0,0)))]:=hx_ab128;obtain⟨_,ha,A126,c126,rfl,hr126⟩:=hd.g ha 4 rfl;have hS: Step w0 H [] w H_ ((some ab128,(.cells aZ 26 (0,0)))::(As.aents (As.il []) (As.sl [(6,7)]) [] ax_++As.aents (As.il []) (As.sl [(6,7)]) [] ax_++ [(some ab121,(.cells #[(.slice A119 k17.length c119)] 24 (0,0))),(some b1,(.cells aZ 26 (0,0)))])):=As.opn (s:=⟨H_,ax_⟩) [] [6,7] [] [(some ab128,(.cells aZ 26 (0,0)))] rfl (As.con2 Y Y Y hx_ab128 hax_) hS;refine id (aw (cs':=(tA q18 A126 c126)) T26 hS (i:=0) Y ha Y Y Y Y Y Y fun a w hS ha=>?_);exact As.qown (i:=7) (dst:=none) (s:=⟨H_,ax_⟩) (E:= [(some ab128,(.cells (tA q18 A126 c126) 26 (0,0)))]) [] [6,7] [] rfl Y hax_ (Le.refl _) ha.dfr (v:=undef) (fun _ h=>by cases h) hS (.inl (As.con2' Y Y)) ⟨ab128,A126,c126,hx_ab128,rfl,hr126⟩
 obtain⟨H132,ax_⟩:=s_;have hle132: Le H123 H132:=hls.le;dsimp only at hdr_ hS;have hr119:=hr119.mono hle132;obtain⟨_,ha,rfl⟩:=As.Dd ha hdr_ 5 rfl;obtain⟨_,ha,ab128,hx_ab128,rfl⟩:=As.Dd ha hdr_ 6 rfl;have hx_ab128: ax_ 6=some [(some ab128,(.cells aZ 26 (0,0)))]:=hx_ab128;obtain⟨_,hv_,sb130,A126,c126,hq_sb130,hx_sb130,hr126⟩:=hdr_ 7 _ _ Y Y;have hx_sb130: ax_ 7=some [(some sb130,(.cells (tA q18 A126 c126) 26 (0,0)))]:=hx_sb130;obtain rfl: ab128=sb130:=by have h_:=(hx_ab128).symm.trans hq_sb130;simpa using h_
 have hS: Step w0 H [] w H132 [(some ab128,(.cells (tA q18 A126 c126) 26 (0,0))),(some ab121,(.cells #[(.slice A119 k17.length c119)] 24 (0,0))),(some b1,(.cells aZ 26 (0,0)))]:=by
  have h_:=hS;unfold As.aents at h_;simp only [List.flatMap_cons,List.flatMap_nil,As.conE,show (As.sl [(6,7)]) 6=some 7 from rfl,show (As.sl [(6,7)]) 7=none from rfl,hx_ab128,hx_sb130,Option.isSome_some,Option.getD_some,cond_true,cond_false,List.cons_append,List.nil_append,List.append_nil] at h_;exact h_
 refine any1 (i:=8) (by kernel_rfl) Y Y (aB ha Y Y fun a ha=>?_);refine any0 (by kernel_rfl) ?_;refine aa (wp_seq ?_);have hS_:=hS;refine As.c_draw_head (ini:=(As.il [])) (sup:=(As.sl [(6,7)])) (als:= [6,7]) (s0:=⟨H132,fun _=>none⟩) (L:= [(some ab128,(.cells (tA q18 A126 c126) 26 (0,0))),(some ab121,(.cells #[(.slice A119 k17.length c119)] 24 (0,0))),(some b1,(.cells aZ 26 (0,0)))]) (N:=386) (E:= [(1,(pB b1)),(2,(pB ab121)),(3,(pB ab128)),(4,(iV 0))]) 8 [FcV (.agg #[(.slice A119 k17.length c119)]),As.lf (FcT q7),As.lf (fun H v=> ∃ A c,v=(.tuple #[(tv q19 A c),(iV 0)])∧RowT H A c q19.l),As.lf (fun H v=> ∃ A c,v=(.tuple #[(tv q19 A c),(iV 0)])∧RowT H A c q19.l),As.lf (FcT q19),FcV (iV 0),fun s v=> ∃ b,s.ax 6=some [(some b,(.cells aZ 26 (0,0)))]∧v=.pointer (some ⟨b,0,none⟩),fun s _=> ∃(b: Nat) (A: Option Addr) (c: Nat),s.ax 6=some [(some b,(.cells aZ 26 (0,0)))]∧s.ax 7=some [(some b,(.cells (tA q19 A c) 26 (0,0)))]∧RowT s.H A c q19.l] mixed (by kernel_rfl) (by kernel_rfl) (by kernel_rfl) (by repeat' (first | exact As.Monos.nil | refine As.Monos.cons ?_ ?_ |(intro _ _ _ hl h;exact h) |(rintro _ _ _ hl ⟨A,c,h,hr⟩;exact⟨A,c,h,hr.mono hl.le⟩) |(rintro _ _ _ hl ⟨b,h,hb⟩;exact⟨b,h,hl.le _ _ hb⟩) | exact fun _ _ _ hl ⟨b,A,c,h1,h2,hr⟩=>⟨b,A,c,hl.get h1,hl.get h2,hr.mono hl.le⟩ | exact fun _ _ _ hl ⟨b,h,e⟩=>⟨b,hl.get h,e⟩)) (fun _=>rfl) hS (ha.pk Y) (As.QuietsI.c4 ?_ ?_ ?_ ?_ (As.QuietsI.c4 ?_ ?_ ?_ ?_ (As.QuietsI.nil))) (fun f_ a w s_ hls hS ha hdr_=>?_)
 ·refine As.Qx Y fun a w H_ ax_ hle hax_ hS ha hd hls=>?_;have hSf:=hS;have hS:=Step.dropN _ _ hS;exact ak (vs:= [(.slice A119 k17.length c119)]) T24 Y ha Y (hS.blkL 1 rfl) Y (af Y) Y fun a ha=>As.ql ha hSf
 ·refine As.Qx Y fun a w H_ ax_ hle hax_ hS ha hd hls=>?_;have hSf:=hS;have hSr:=Step.dropN _ _ hS;have hk134:=bV (n:=2) hS.inv.nil;refine id (Co func39 ha Y (hk134) ?_);rintro e w ⟨H133,A133,c133,rfl,hr133,hc133⟩;refine⟨_,rfl,fun a ha=>?_⟩;have hS:=hS.call hc133;exact As.qdone (s:=⟨H_,ax_⟩) hc133.le ha hS ⟨A133,c133,rfl,hr133⟩
 ·refine As.Qx1 0 rfl fun a w H_ ax_ hle hax_ hS ha hd hls=>?_;obtain⟨_,ha,A133,c133,rfl,hr133⟩:=hd.g ha 1 rfl;have hr119:=hr119.mono hle;have hSf:=hS;have hSr:=Step.dropN _ _ hS;have hk136:=c_Whole hS.inv.nil hr119 hr133;rw [show (wholeU k17 q7).2=0 from by kernel_rfl] at hk136;refine id (Co func41 ha Y (hk136) ?_);rintro e w ⟨H135,A135,c135,rfl,hr135,hc135⟩;refine⟨_,rfl,fun a ha=>?_⟩;have hS:=hS.call hc135;exact As.qdone (s:=⟨H_,ax_⟩) hc135.le ha hS ⟨A135,c135,rfl,hr135⟩
 ·refine As.Qx Y fun a w H_ ax_ hle hax_ hS ha hd hls=>?_;obtain⟨_,ha,A135,c135,rfl,hr135⟩:=hd.g ha 2 rfl;have hSf:=hS;refine id (ai ha Y Y fun a ha=>?_);exact As.qdone (s:=⟨H_,ax_⟩) (Le.refl _) ha hSf ⟨A135,c135,rfl,hr135⟩
 ·refine As.Qx Y fun a w H_ ax_ hle hax_ hS ha hd hls=>?_;obtain⟨_,ha,A135,c135,rfl,hr135⟩:=hd.g ha 3 rfl;have hSf:=hS;refine id (ap (v:=(tv q19 A135 c135)) ha Y Y Y fun a ha=>?_);exact As.qdone (s:=⟨H_,ax_⟩) (Le.refl _) ha hSf ⟨A135,c135,rfl,hr135⟩
 ·refine As.Qx Y fun a w H_ ax_ hle hax_ hS ha hd hls=>?_;obtain⟨_,ha,A135,c135,rfl,hr135⟩:=hd.g ha 3 rfl;have hSf:=hS;exact ap (v:=(iV 0)) ha Y Y Y fun a ha=>As.ql ha hSf
 ·refine As.Qx Y fun a w H_ ax_ hle hax_ hS ha hd hls=>?_;have hS: Step w0 H [] w H_ ((As.aents (As.il []) (As.sl [(6,7)]) [] ax_++As.aents (As.il []) (As.sl [(6,7)]) [7] ax_++ [(some ab128,(.cells (tA q18 A126 c126) 26 (0,0))),(some ab121,(.cells #[(.slice A119 k17.length c119)] 24 (0,0))),(some b1,(.cells aZ 26 (0,0)))])):=As.opn (s:=⟨H_,ax_⟩) [] [6] [7] [] rfl (As.con0 hax_ Y) hS;refine aC (cs:=aZ) T26 hS ha Y Y fun ab137 a w hS ha=>?_;exact As.qown (i:=6) (dst:=some 5) (s:=⟨H_,ax_⟩) (E:= [(some ab137,(.cells aZ 26 (0,0)))]) [] [6] [7] rfl Y hax_ (Le.refl _) ha.dfr (As.has_at ha) hS As.con1 ⟨ab137,rfl,rfl⟩
 ·refine As.Qx Y fun a w H_ ax_ hle hax_ hS ha hd hls=>?_;obtain⟨_,ha,ab137,hx_ab137,rfl⟩:=hd.g ha 6 rfl;have hx_ab137: ax_ 6=some [(some ab137,(.cells aZ 26 (0,0)))]:=hx_ab137;obtain⟨_,ha,A135,c135,rfl,hr135⟩:=hd.g ha 4 rfl;have hS: Step w0 H [] w H_ ((some ab137,(.cells aZ 26 (0,0)))::(As.aents (As.il []) (As.sl [(6,7)]) [] ax_++As.aents (As.il []) (As.sl [(6,7)]) [] ax_++ [(some ab128,(.cells (tA q18 A126 c126) 26 (0,0))),(some ab121,(.cells #[(.slice A119 k17.length c119)] 24 (0,0))),(some b1,(.cells aZ 26 (0,0)))])):=As.opn (s:=⟨H_,ax_⟩) [] [6,7] [] [(some ab137,(.cells aZ 26 (0,0)))] rfl (As.con2 Y Y Y hx_ab137 hax_) hS;refine id (aw (cs':=(tA q19 A135 c135)) T26 hS (i:=0) Y ha Y Y Y Y Y Y fun a w hS ha=>?_);exact As.qown (i:=7) (dst:=none) (s:=⟨H_,ax_⟩) (E:= [(some ab137,(.cells (tA q19 A135 c135) 26 (0,0)))]) [] [6,7] [] rfl Y hax_ (Le.refl _) ha.dfr (v:=undef) (fun _ h=>by cases h) hS (.inl (As.con2' Y Y)) ⟨ab137,A135,c135,hx_ab137,rfl,hr135⟩
 obtain⟨H141,ax_⟩:=s_;have hle141: Le H132 H141:=hls.le;dsimp only at hdr_ hS;have hr119:=hr119.mono hle141;have hr126:=hr126.mono hle141;obtain⟨_,ha,rfl⟩:=As.Dd ha hdr_ 5 rfl;obtain⟨_,ha,ab137,hx_ab137,rfl⟩:=As.Dd ha hdr_ 6 rfl;have hx_ab137: ax_ 6=some [(some ab137,(.cells aZ 26 (0,0)))]:=hx_ab137;obtain⟨_,hv_,sb139,A135,c135,hq_sb139,hx_sb139,hr135⟩:=hdr_ 7 _ _ Y Y;have hx_sb139: ax_ 7=some [(some sb139,(.cells (tA q19 A135 c135) 26 (0,0)))]:=hx_sb139;obtain rfl: ab137=sb139:=by have h_:=(hx_ab137).symm.trans hq_sb139;simpa using h_
 have hS: Step w0 H [] w H141 [(some ab137,(.cells (tA q19 A135 c135) 26 (0,0))),(some ab128,(.cells (tA q18 A126 c126) 26 (0,0))),(some ab121,(.cells #[(.slice A119 k17.length c119)] 24 (0,0))),(some b1,(.cells aZ 26 (0,0)))]:=by
  have h_:=hS;unfold As.aents at h_;simp only [List.flatMap_cons,List.flatMap_nil,As.conE,show (As.sl [(6,7)]) 6=some 7 from rfl,show (As.sl [(6,7)]) 7=none from rfl,hx_ab137,hx_sb139,Option.isSome_some,Option.getD_some,cond_true,cond_false,List.cons_append,List.nil_append,List.append_nil] at h_;exact h_
 refine any1 (i:=8) (by kernel_rfl) Y Y (aB ha Y Y fun a ha=>?_);refine any0 (by kernel_rfl) ?_;refine aa (wp_seq ?_);have hS_:=hS;refine As.c_draw_head (ini:=(As.il [])) (sup:=(As.sl [])) (als:= [2]) (s0:=⟨H141,fun _=>none⟩) (L:= [(some ab137,(.cells (tA q19 A135 c135) 26 (0,0))),(some ab128,(.cells (tA q18 A126 c126) 26 (0,0))),(some ab121,(.cells #[(.slice A119 k17.length c119)] 24 (0,0))),(some b1,(.cells aZ 26 (0,0)))]) (N:=386) (E:= [(1,(pB b1)),(2,(pB ab121)),(3,(pB ab128)),(4,(iV 0)),(5,(pB ab137)),(6,(iV 0))]) 7 [FcV (.agg #[(.slice A119 k17.length c119)]),As.lf (FcT q7),fun s v=> ∃(A: Option Addr) (c: Nat) (en: Ent),s.ax 2=some [en]∧v=(.tuple #[(.slice A (([0]: List Int).length) c),(iV 0)])∧Row (.slice A (([0]: List Int).length) c) en 3 1 (([0]: List Int).length) (ints ([0]: List Int)),fun s v=> ∃(A: Option Addr) (c: Nat) (en: Ent),s.ax 2=some [en]∧v=(.tuple #[(.slice A (([0]: List Int).length) c),(iV 0)])∧Row (.slice A (([0]: List Int).length) c) en 3 1 (([0]: List Int).length) (ints ([0]: List Int)),fun s v=> ∃(A: Option Addr) (c: Nat) (en: Ent),s.ax 2=some [en]∧v=(.slice A (([0]: List Int).length) c)∧Row (.slice A (([0]: List Int).length) c) en 3 1 (([0]: List Int).length) (ints ([0]: List Int)),FcV (iV 0),fun s v=> ∃(A: Option Addr) (c: Nat) (en: Ent),s.ax 2=some [en]∧v=(.slice A (([0]: List Int).length) c)∧Row (.slice A (([0]: List Int).length) c) en 3 1 (([0]: List Int).length) (ints ([0]: List Int))] mixed (by kernel_rfl) (by kernel_rfl) (by kernel_rfl) (by repeat' (first | exact As.Monos.nil | refine As.Monos.cons ?_ ?_ |(intro _ _ _ hl h;exact h) |(rintro _ _ _ hl ⟨A,c,h,hr⟩;exact⟨A,c,h,hr.mono hl.le⟩) |(rintro _ _ _ hl ⟨b,h,hb⟩;exact⟨b,h,hl.le _ _ hb⟩) | exact fun _ _ _ hl ⟨A,c,en,h,e,hR⟩=>⟨A,c,en,hl.get h,e,hR⟩)) (fun _=>rfl) hS (ha.pk Y) (As.QuietsI.c4 ?_ ?_ ?_ ?_ (As.QuietsI.c2 ?_ ?_ (As.QuietsI.cons ?_ (As.QuietsI.nil)))) (fun f_ a w s_ hls hS ha hdr_=>?_)
 ·refine As.Qx Y fun a w H_ ax_ hle hax_ hS ha hd hls=>?_;have hSf:=hS;have hS:=Step.dropN _ _ hS;exact ak (vs:= [(.slice A119 k17.length c119)]) T24 Y ha Y (hS.blkL 2 rfl) Y (af Y) Y fun a ha=>As.ql ha hSf
 ·refine As.Qx Y fun a w H_ ax_ hle hax_ hS ha hd hls=>?_;have hSf:=hS;have hSr:=Step.dropN _ _ hS;have hk143:=bV (n:=2) hS.inv.nil;refine id (Co func39 ha Y (hk143) ?_);rintro e w ⟨H142,A142,c142,rfl,hr142,hc142⟩;refine⟨_,rfl,fun a ha=>?_⟩;have hS:=hS.call hc142;exact As.qdone (s:=⟨H_,ax_⟩) hc142.le ha hS ⟨A142,c142,rfl,hr142⟩
 ·refine As.Qx1 0 rfl fun a w H_ ax_ hle hax_ hS ha hd hls=>?_;obtain⟨_,ha,A142,c142,rfl,hr142⟩:=hd.g ha 1 rfl;have hr119:=hr119.mono hle;have hS: Step w0 H [] w H_ ((As.aents (As.il []) (As.sl []) [] ax_++As.aents (As.il []) (As.sl []) [] ax_++ [(some ab137,(.cells (tA q19 A135 c135) 26 (0,0))),(some ab128,(.cells (tA q18 A126 c126) 26 (0,0))),(some ab121,(.cells #[(.slice A119 k17.length c119)] 24 (0,0))),(some b1,(.cells aZ 26 (0,0)))])):=As.opn (s:=⟨H_,ax_⟩) [] [2] [] [] rfl (As.con0 hax_ Y) hS;have hk145:=c_Free hS.inv.nil hr119 hr142;rw [show (freeU k17 q7).1= [0] from by kernel_rfl] at hk145;rw [show (freeU k17 q7).2=0 from by kernel_rfl] at hk145;refine id (Co func37 ha Y (hk145) ?_);rintro e w ⟨H144,A144,c144,en144,rfl,hR144,hc144⟩;refine⟨_,rfl,fun a ha=>?_⟩;have hS:=Step.frame (Lc:= []) hS hc144;exact As.qown (i:=2) (dst:=some 126) (s:=⟨H_,ax_⟩) (E:= [en144]) [] [2] [] rfl Y hax_ hc144.le ha.dfr (As.has_at ha) hS As.con1 ⟨_,_,_,rfl,rfl,hR144⟩
 ·refine As.Qx Y fun a w H_ ax_ hle hax_ hS ha hd hls=>?_;obtain⟨_,ha,A144,c144,en144,hx_144,rfl,hR144⟩:=hd.g ha 2 rfl;have hx_144: ax_ 2=some [en144]:=hx_144;have hSf:=hS;refine id (ai ha Y Y fun a ha=>?_);exact As.qdone (s:=⟨H_,ax_⟩) (Le.refl _) ha hSf ⟨A144,c144,en144,hx_144,rfl,hR144⟩
 ·refine As.Qx Y fun a w H_ ax_ hle hax_ hS ha hd hls=>?_;obtain⟨_,ha,A144,c144,en144,hx_144,rfl,hR144⟩:=hd.g ha 3 rfl;have hSf:=hS;refine id (ap (v:=(.slice A144 (([0]: List Int).length) c144)) ha Y Y Y fun a ha=>?_);exact As.qdone (s:=⟨H_,ax_⟩) (Le.refl _) ha hSf ⟨A144,c144,en144,hx_144,rfl,hR144⟩
 ·refine As.Qx Y fun a w H_ ax_ hle hax_ hS ha hd hls=>?_;obtain⟨_,ha,A144,c144,en144,hx_144,rfl,hR144⟩:=hd.g ha 3 rfl;have hSf:=hS;exact ap (v:=(iV 0)) ha Y Y Y fun a ha=>As.ql ha hSf
 ·refine As.Qx Y fun a w H_ ax_ hle hax_ hS ha hd hls=>?_;obtain⟨_,ha,A144,c144,en144,hx_144,rfl,hR144⟩:=hd.g ha 4 rfl;have hSf:=hS;refine id (aB ha Y Y fun a ha=>?_);exact As.qdone (s:=⟨H_,ax_⟩) (Le.refl _) ha hSf ⟨A144,c144,en144,hx_144,rfl,hR144⟩
 obtain⟨H147,ax_⟩:=s_;have hle147: Le H141 H147:=hls.le;dsimp only at hdr_ hS;have hr119:=hr119.mono hle147;have hr126:=hr126.mono hle147;have hr135:=hr135.mono hle147;obtain⟨_,hv_,A144,c144,en144,hx_144,rfl,hR144⟩:=hdr_ 2 _ _ Y Y;have hx_144: ax_ 2=some [en144]:=hx_144;obtain⟨_,ha,rfl⟩:=As.Dd ha hdr_ 5 rfl;obtain⟨_,ha,A144,c144,en144,hx_144,rfl,hR144⟩:=As.Dd ha hdr_ 6 rfl;have hx_144: ax_ 2=some [en144]:=hx_144;have hS: Step w0 H [] w H147 [en144,(some ab137,(.cells (tA q19 A135 c135) 26 (0,0))),(some ab128,(.cells (tA q18 A126 c126) 26 (0,0))),(some ab121,(.cells #[(.slice A119 k17.length c119)] 24 (0,0))),(some b1,(.cells aZ 26 (0,0)))]:=by
  have h_:=hS;unfold As.aents at h_;simp only [List.flatMap_cons,List.flatMap_nil,As.conE,show (As.sl []) 2=none from rfl,hx_144,Option.isSome_some,Option.getD_some,cond_true,cond_false,List.cons_append,List.nil_append,List.append_nil] at h_;exact h_
 refine any1 (i:=7) (by kernel_rfl) Y Y (aB ha Y Y fun a ha=>?_);refine any0 (by kernel_rfl) ?_;refine aa (wp_seq ?_);have hS_:=hS;refine a9 bF [FcV (.agg #[(.slice A119 k17.length c119)]),FcT q7,FcT q1,FcT q0,FcT q0,fun H v=> ∃ A c,v=.slice A 2 c∧RowT H A c [q0,q0],FcT q15,fun H v=> ∃ A c,v=.slice A 2 c∧RowT H A c [q1,q15],FcT q20,FcV (.tuple #[(.bool true),(iV 0)]),FcV (.tuple #[(.bool true),(iV 0)]),FcV (.bool true),FcV (iV 0),FcV (.bool true),FcV (iV 0)] (N:=386) (E:= [(1,(pB b1)),(2,(pB ab121)),(3,(pB ab128)),(4,(iV 0)),(5,(pB ab137)),(6,(iV 0)),(7,(.slice A144 (([0]: List Int).length) c144)),(8,(iV 0))]) mixed (by kernel_rfl) (by repeat' (first | exact Monos.nil | refine Monos.cons ?_ ?_ |(intro _ _ _ hl h;exact h) |(rintro _ _ _ hl ⟨A,c,h,hr⟩;exact⟨A,c,h,hr.mono hl⟩) |(rintro _ _ _ hl ⟨b,h,hb⟩;exact⟨b,h,hl _ _ hb⟩))) hS (ha.pk Y) (.c4 ?_ ?_ ?_ ?_ (.c4 ?_ ?_ ?_ ?_ (.c4 ?_ ?_ ?_ ?_ (.c2 ?_ ?_ (.cons ?_ (.nil)))))) (fun a w H164 hle164 hS ha hdr_=>?_)
 ·refine Qy Y fun a w H_ hle hS ha hd=>?_;exact ak (vs:= [(.slice A119 k17.length c119)]) T24 Y ha Y (hS.blkL 3 rfl) Y (af Y) Y fun a ha=>ql ha hS
 ·refine Qy Y fun a w H_ hle hS ha hd=>?_;exact Qd func39 ha Y (bV (n:=2) hS.inv.nil) hS
 ·refine Qy Y fun a w H_ hle hS ha hd=>?_;exact Qd func39 ha Y (bV (n:=1) hS.inv.nil) hS
 ·refine Qy Y fun a w H_ hle hS ha hd=>?_;exact Qd func39 ha Y (bV (n:=0) hS.inv.nil) hS
 ·refine Qy Y fun a w H_ hle hS ha hd=>?_;exact Qd func39 ha Y (bV (n:=0) hS.inv.nil) hS
 ·refine Qy Y fun a w H_ hle hS ha hd=>?_;obtain⟨_,ha,A152,c152,rfl,hr152⟩:=hd.g ha 3 rfl;obtain⟨_,ha,A154,c154,rfl,hr154⟩:=hd.g ha 4 rfl;refine id (aE (vs:= [(0,(tv q0 A152 c152)),(1,(tv q0 A154 c154))]) (cells:= [(iV q0.kind),(iV q0.n),(.string q0.s),(.slice A152 q0.l.length c152),(iV q0.kind),(iV q0.n),(.string q0.s),(.slice A154 q0.l.length c154)]) T22.und T26 hS ha (ha.evp Y) Y Y Y Y fun b156 a w hS ha=>?_);obtain⟨H156,hS,hle156,hb156⟩:=hS.give;have hr152:=hr152.mono hle156;have hr154:=hr154.mono hle156;have hr156: RowT H156 (some ⟨b156,0,none⟩) 2 [q0,q0]:=RowT.of_lit ([⟨q0,A152,c152⟩,⟨q0,A154,c154⟩]: List TV) hb156 (AllR.cons hr152 (AllR.cons hr154 (AllR.nil _))) (by simp) Y;exact qdone hle156 ha hS ⟨_,_,rfl,hr156⟩
 ·refine Qy Y fun a w H_ hle hS ha hd=>?_;obtain⟨_,ha,A156,c156,rfl,hr156⟩:=hd.g ha 5 rfl;exact Qd func47 ha Y (dU (s:=⟨#[102]⟩) hS.inv.nil hr156) hS
 ·refine Qy Y fun a w H_ hle hS ha hd=>?_;obtain⟨_,ha,A150,c150,rfl,hr150⟩:=hd.g ha 2 rfl;obtain⟨_,ha,A157,c157,rfl,hr157⟩:=hd.g ha 6 rfl;refine id (aE (vs:= [(0,(tv q1 A150 c150)),(1,(tv q15 A157 c157))]) (cells:= [(iV q1.kind),(iV q1.n),(.string q1.s),(.slice A150 q1.l.length c150),(iV q15.kind),(iV q15.n),(.string q15.s),(.slice A157 q15.l.length c157)]) T22.und T26 hS ha (ha.evp Y) Y Y Y Y fun b159 a w hS ha=>?_);obtain⟨H159,hS,hle159,hb159⟩:=hS.give;have hr150:=hr150.mono hle159;have hr157:=hr157.mono hle159;have hr159: RowT H159 (some ⟨b159,0,none⟩) 2 [q1,q15]:=RowT.of_lit ([⟨q1,A150,c150⟩,⟨q15,A157,c157⟩]: List TV) hb159 (AllR.cons hr150 (AllR.cons hr157 (AllR.nil _))) (by simp) Y;exact qdone hle159 ha hS ⟨_,_,rfl,hr159⟩
 ·refine Qy Y fun a w H_ hle hS ha hd=>?_;obtain⟨_,ha,A159,c159,rfl,hr159⟩:=hd.g ha 7 rfl;exact Qd func47 ha Y (dU (s:=⟨#[102]⟩) hS.inv.nil hr159) hS
 ·refine Qy1 0 rfl fun a w H_ hle hS ha hd=>?_;obtain⟨_,ha,A148,c148,rfl,hr148⟩:=hd.g ha 1 rfl;obtain⟨_,ha,A160,c160,rfl,hr160⟩:=hd.g ha 8 rfl;have hr119:=hr119.mono hle;have hk163:=c_USame hS.inv.nil hr119 hr148 hr160;rw [show (sameU k17 q7 q20)=(true,0) from by kernel_rfl] at hk163;refine id (Co func18 ha Y (hk163) ?_);rintro e w ⟨H162,rfl,hc162⟩;refine⟨_,rfl,fun a ha=>?_⟩;have hS:=hS.call hc162;exact qdone hc162.le ha hS Y
 ·refine Qy1 9 rfl fun a w H_ hle hS ha hd=>?_;exact ai ha Y Y fun a ha=>ql ha hS
 ·refine Qy1 10 rfl fun a w H_ hle hS ha hd=>?_;exact ap (v:=(.bool true)) ha Y Y Y fun a ha=>ql ha hS
 ·refine Qy1 10 rfl fun a w H_ hle hS ha hd=>?_;exact ap (v:=(iV 0)) ha Y Y Y fun a ha=>ql ha hS
 ·refine Qy1 11 rfl fun a w H_ hle hS ha hd=>?_;exact aB ha Y Y fun a ha=>ql ha hS
 ·refine Qy1 12 rfl fun a w H_ hle hS ha hd=>?_;exact aB ha Y Y fun a ha=>ql ha hS
 have hr126:=hr126.mono hle164;have hr135:=hr135.mono hle164;obtain⟨_,ha,rfl⟩:=Dd ha hdr_ 13 rfl;obtain⟨_,ha,rfl⟩:=Dd ha hdr_ 14 rfl;refine aa (wp_seq (wp_seq ?_));have hS:=hS.front 3 rfl;have hS:=hS.drop;have hS_:=hS;refine a9 bF [FcV (iV 0),FcV (.bool false),FcV (.bool false),FcV (iV 0),FcV (.bool false),FcV (.bool false),FcV (.bool false),FcV (iV 0),FcV (.bool false),FcV (.bool false),FcV (.bool false),FcV (iV 0),FcV (.bool false),FcV (.bool false),FcV (.bool false),FcV (tv q18 A126 c126),FcT q1,FcT q1,fun H v=> ∃ A c,v=.slice A 2 c∧RowT H A c [q1,q1],FcT q16,FcV (.bool true),FcV (.bool false),FcV (.bool false),FcV (.bool false),FcV (tv q19 A135 c135),FcT q0,FcT q0,fun H v=> ∃ A c,v=.slice A 2 c∧RowT H A c [q0,q0],FcT q15,FcT q0,FcT q0,fun H v=> ∃ A c,v=.slice A 2 c∧RowT H A c [q0,q0],FcT q15,fun H v=> ∃ A c,v=.slice A 2 c∧RowT H A c [q15,q15],FcT q21,FcV (.bool true),FcV (.bool false),FcV (.bool false),FcV (.bool false),FcV (.slice A144 (([0]: List Int).length) c144),fun H v=> ∃ b,v=.slice (some ⟨b,0,none⟩) 1 1∧H b=some (.cells #[(iV 0)] 3 (0,0)),FcV (.bool true),FcV (.bool false),FcV (.bool false),FcV (.bool false),FcV (.bool true),FcV (.bool false),FcV (.bool false)] (N:=386) (E:= [(1,(pB b1)),(3,(pB ab128)),(4,(iV 0)),(5,(pB ab137)),(6,(iV 0)),(7,(.slice A144 (([0]: List Int).length) c144)),(8,(iV 0)),(9,(.bool true)),(10,(iV 0))]) mixed (by kernel_rfl) (by repeat' (first | exact Monos.nil | refine Monos.cons ?_ ?_ |(intro _ _ _ hl h;exact h) |(rintro _ _ _ hl ⟨A,c,h,hr⟩;exact⟨A,c,h,hr.mono hl⟩) |(rintro _ _ _ hl ⟨b,h,hb⟩;exact⟨b,h,hl _ _ hb⟩))) hS (ha.pk Y) (.c4 ?_ ?_ ?_ ?_ (.c4 ?_ ?_ ?_ ?_ (.c4 ?_ ?_ ?_ ?_ (.c4 ?_ ?_ ?_ ?_ (.c4 ?_ ?_ ?_ ?_ (.c4 ?_ ?_ ?_ ?_ (.c4 ?_ ?_ ?_ ?_ (.c4 ?_ ?_ ?_ ?_ (.c4 ?_ ?_ ?_ ?_ (.c4 ?_ ?_ ?_ ?_ (.c4 ?_ ?_ ?_ ?_ (.c4 ?_ ?_ ?_ ?_ (.nil))))))))))))) (fun a w H193 hle193 hS ha hdr_=>?_)
 ·refine Qy Y fun a w H_ hle hS ha hd=>?_;exact ai ha Y Y fun a ha=>ql ha hS
 ·refine Qy1 0 rfl fun a w H_ hle hS ha hd=>?_;exact a8 (i:=0) (j:=0) ha Y Y Y fun a ha=>ql ha hS
 ·refine Qy1 1 rfl fun a w H_ hle hS ha hd=>?_;exact ai ha Y Y fun a ha=>ql ha hS
 ·refine Qg 2 rfl fun a w H_ hle hS ha hd=>?_;exact ai ha Y Y fun a ha=>ql ha hS
 ·refine Qg 2 rfl fun a w H_ hle hS ha hd=>?_;obtain⟨_,ha,rfl⟩:=hd.g ha 3 rfl;exact a8 (i:=0) (j:=0) ha Y Y Y fun a ha=>ql ha hS
 ·refine Qy1 2 rfl fun a w H_ hle hS ha hd=>?_;obtain⟨_,ha,rfl⟩:=hd.g ha 4 rfl;exact ah ha Y Y Y fun a ha=>ql ha hS
 ·refine Qy1 5 rfl fun a w H_ hle hS ha hd=>?_;exact ai ha Y Y fun a ha=>ql ha hS
 ·refine Qg 6 rfl fun a w H_ hle hS ha hd=>?_;exact ai ha Y Y fun a ha=>ql ha hS
 ·refine Qg 6 rfl fun a w H_ hle hS ha hd=>?_;obtain⟨_,ha,rfl⟩:=hd.g ha 7 rfl;exact a8 (i:=0) (j:=0) ha Y Y Y fun a ha=>ql ha hS
 ·refine Qy1 6 rfl fun a w H_ hle hS ha hd=>?_;obtain⟨_,ha,rfl⟩:=hd.g ha 8 rfl;exact ah ha Y Y Y fun a ha=>ql ha hS
 ·refine Qy1 9 rfl fun a w H_ hle hS ha hd=>?_;exact ai ha Y Y fun a ha=>ql ha hS
 ·refine Qg 10 rfl fun a w H_ hle hS ha hd=>?_;exact ai ha Y Y fun a ha=>ql ha hS
 ·refine Qg 10 rfl fun a w H_ hle hS ha hd=>?_;obtain⟨_,ha,rfl⟩:=hd.g ha 11 rfl;exact a8 (i:=0) (j:=0) ha Y Y Y fun a ha=>ql ha hS
 ·refine Qy1 10 rfl fun a w H_ hle hS ha hd=>?_;obtain⟨_,ha,rfl⟩:=hd.g ha 12 rfl;exact ah ha Y Y Y fun a ha=>ql ha hS
 ·refine Qy1 13 rfl fun a w H_ hle hS ha hd=>?_;exact ai ha Y Y fun a ha=>ql ha hS
 ·refine Qg 14 rfl fun a w H_ hle hS ha hd=>?_;exact ak (vs:=(tL q18 A126 c126)) T26 Y ha Y (hS.blkL 2 rfl) Y (af Y) Y fun a ha=>ql ha hS
 ·refine Qg 14 rfl fun a w H_ hle hS ha hd=>?_;exact Qd func39 ha Y (bV (n:=1) hS.inv.nil) hS
 ·refine Qg 14 rfl fun a w H_ hle hS ha hd=>?_;exact Qd func39 ha Y (bV (n:=1) hS.inv.nil) hS
 ·refine Qg 14 rfl fun a w H_ hle hS ha hd=>?_;obtain⟨_,ha,A165,c165,rfl,hr165⟩:=hd.g ha 16 rfl;obtain⟨_,ha,A167,c167,rfl,hr167⟩:=hd.g ha 17 rfl;refine id (aE (vs:= [(0,(tv q1 A165 c165)),(1,(tv q1 A167 c167))]) (cells:= [(iV q1.kind),(iV q1.n),(.string q1.s),(.slice A165 q1.l.length c165),(iV q1.kind),(iV q1.n),(.string q1.s),(.slice A167 q1.l.length c167)]) T22.und T26 hS ha (ha.evp Y) Y Y Y Y fun b169 a w hS ha=>?_);obtain⟨H169,hS,hle169,hb169⟩:=hS.give;have hr165:=hr165.mono hle169;have hr167:=hr167.mono hle169;have hr169: RowT H169 (some ⟨b169,0,none⟩) 2 [q1,q1]:=RowT.of_lit ([⟨q1,A165,c165⟩,⟨q1,A167,c167⟩]: List TV) hb169 (AllR.cons hr165 (AllR.cons hr167 (AllR.nil _))) (by simp) Y;exact qdone hle169 ha hS ⟨_,_,rfl,hr169⟩
 ·refine Qg 14 rfl fun a w H_ hle hS ha hd=>?_;obtain⟨_,ha,A169,c169,rfl,hr169⟩:=hd.g ha 18 rfl;exact Qd func47 ha Y (dU (s:=⟨#[102]⟩) hS.inv.nil hr169) hS
 ·refine Qg 14 rfl fun a w H_ hle hS ha hd=>?_;obtain⟨_,ha,rfl⟩:=hd.g ha 15 rfl;obtain⟨_,ha,A170,c170,rfl,hr170⟩:=hd.g ha 19 rfl;have hr126:=hr126.mono hle;have hk172:=fJ _ _ _ _ _ _ _ _ hr126 hr170 hS.inv.nil;rw [show eqT q18 q16=true from by kernel_rfl] at hk172;exact Cs func43 ha Y (hk172) hS fun a w ha hS=>ql ha hS
 ·refine Qg 14 rfl fun a w H_ hle hS ha hd=>?_;obtain⟨_,ha,rfl⟩:=hd.g ha 20 rfl;exact aQ ha Y Y fun a ha=>ql ha hS
 ·refine Qy1 14 rfl fun a w H_ hle hS ha hd=>?_;obtain⟨_,ha,rfl⟩:=hd.g ha 21 rfl;exact ah ha Y Y Y fun a ha=>ql ha hS
 ·refine Qy1 22 rfl fun a w H_ hle hS ha hd=>?_;exact ai ha Y Y fun a ha=>ql ha hS
 ·refine Qg 23 rfl fun a w H_ hle hS ha hd=>?_;exact ak (vs:=(tL q19 A135 c135)) T26 Y ha Y (hS.blkL 1 rfl) Y (af Y) Y fun a ha=>ql ha hS
 ·refine Qg 23 rfl fun a w H_ hle hS ha hd=>?_;exact Qd func39 ha Y (bV (n:=0) hS.inv.nil) hS
 ·refine Qg 23 rfl fun a w H_ hle hS ha hd=>?_;exact Qd func39 ha Y (bV (n:=0) hS.inv.nil) hS
 ·refine Qg 23 rfl fun a w H_ hle hS ha hd=>?_;obtain⟨_,ha,A173,c173,rfl,hr173⟩:=hd.g ha 25 rfl;obtain⟨_,ha,A175,c175,rfl,hr175⟩:=hd.g ha 26 rfl;refine id (aE (vs:= [(0,(tv q0 A173 c173)),(1,(tv q0 A175 c175))]) (cells:= [(iV q0.kind),(iV q0.n),(.string q0.s),(.slice A173 q0.l.length c173),(iV q0.kind),(iV q0.n),(.string q0.s),(.slice A175 q0.l.length c175)]) T22.und T26 hS ha (ha.evp Y) Y Y Y Y fun b177 a w hS ha=>?_);obtain⟨H177,hS,hle177,hb177⟩:=hS.give;have hr173:=hr173.mono hle177;have hr175:=hr175.mono hle177;have hr177: RowT H177 (some ⟨b177,0,none⟩) 2 [q0,q0]:=RowT.of_lit ([⟨q0,A173,c173⟩,⟨q0,A175,c175⟩]: List TV) hb177 (AllR.cons hr173 (AllR.cons hr175 (AllR.nil _))) (by simp) Y;exact qdone hle177 ha hS ⟨_,_,rfl,hr177⟩
 ·refine Qg 23 rfl fun a w H_ hle hS ha hd=>?_;obtain⟨_,ha,A177,c177,rfl,hr177⟩:=hd.g ha 27 rfl;exact Qd func47 ha Y (dU (s:=⟨#[102]⟩) hS.inv.nil hr177) hS
 ·refine Qg 23 rfl fun a w H_ hle hS ha hd=>?_;exact Qd func39 ha Y (bV (n:=0) hS.inv.nil) hS
 ·refine Qg 23 rfl fun a w H_ hle hS ha hd=>?_;exact Qd func39 ha Y (bV (n:=0) hS.inv.nil) hS
 ·refine Qg 23 rfl fun a w H_ hle hS ha hd=>?_;obtain⟨_,ha,A180,c180,rfl,hr180⟩:=hd.g ha 29 rfl;obtain⟨_,ha,A182,c182,rfl,hr182⟩:=hd.g ha 30 rfl;refine id (aE (vs:= [(0,(tv q0 A180 c180)),(1,(tv q0 A182 c182))]) (cells:= [(iV q0.kind),(iV q0.n),(.string q0.s),(.slice A180 q0.l.length c180),(iV q0.kind),(iV q0.n),(.string q0.s),(.slice A182 q0.l.length c182)]) T22.und T26 hS ha (ha.evp Y) Y Y Y Y fun b184 a w hS ha=>?_);obtain⟨H184,hS,hle184,hb184⟩:=hS.give;have hr180:=hr180.mono hle184;have hr182:=hr182.mono hle184;have hr184: RowT H184 (some ⟨b184,0,none⟩) 2 [q0,q0]:=RowT.of_lit ([⟨q0,A180,c180⟩,⟨q0,A182,c182⟩]: List TV) hb184 (AllR.cons hr180 (AllR.cons hr182 (AllR.nil _))) (by simp) Y;exact qdone hle184 ha hS ⟨_,_,rfl,hr184⟩
 ·refine Qg 23 rfl fun a w H_ hle hS ha hd=>?_;obtain⟨_,ha,A184,c184,rfl,hr184⟩:=hd.g ha 31 rfl;exact Qd func47 ha Y (dU (s:=⟨#[102]⟩) hS.inv.nil hr184) hS
 ·refine Qg 23 rfl fun a w H_ hle hS ha hd=>?_;obtain⟨_,ha,A178,c178,rfl,hr178⟩:=hd.g ha 28 rfl;obtain⟨_,ha,A185,c185,rfl,hr185⟩:=hd.g ha 32 rfl;refine id (aE (vs:= [(0,(tv q15 A178 c178)),(1,(tv q15 A185 c185))]) (cells:= [(iV q15.kind),(iV q15.n),(.string q15.s),(.slice A178 q15.l.length c178),(iV q15.kind),(iV q15.n),(.string q15.s),(.slice A185 q15.l.length c185)]) T22.und T26 hS ha (ha.evp Y) Y Y Y Y fun b187 a w hS ha=>?_);obtain⟨H187,hS,hle187,hb187⟩:=hS.give;have hr178:=hr178.mono hle187;have hr185:=hr185.mono hle187;have hr187: RowT H187 (some ⟨b187,0,none⟩) 2 [q15,q15]:=RowT.of_lit ([⟨q15,A178,c178⟩,⟨q15,A185,c185⟩]: List TV) hb187 (AllR.cons hr178 (AllR.cons hr185 (AllR.nil _))) (by simp) Y;exact qdone hle187 ha hS ⟨_,_,rfl,hr187⟩
 ·refine Qg 23 rfl fun a w H_ hle hS ha hd=>?_;obtain⟨_,ha,A187,c187,rfl,hr187⟩:=hd.g ha 33 rfl;exact Qd func47 ha Y (dU (s:=⟨#[102]⟩) hS.inv.nil hr187) hS
 ·refine Qg 23 rfl fun a w H_ hle hS ha hd=>?_;obtain⟨_,ha,rfl⟩:=hd.g ha 24 rfl;obtain⟨_,ha,A188,c188,rfl,hr188⟩:=hd.g ha 34 rfl;have hr135:=hr135.mono hle;have hk190:=fJ _ _ _ _ _ _ _ _ hr135 hr188 hS.inv.nil;rw [show eqT q19 q21=true from by kernel_rfl] at hk190;exact Cs func43 ha Y (hk190) hS fun a w ha hS=>ql ha hS
 ·refine Qg 23 rfl fun a w H_ hle hS ha hd=>?_;obtain⟨_,ha,rfl⟩:=hd.g ha 35 rfl;exact aQ ha Y Y fun a ha=>ql ha hS
 ·refine Qy1 23 rfl fun a w H_ hle hS ha hd=>?_;obtain⟨_,ha,rfl⟩:=hd.g ha 36 rfl;exact ah ha Y Y Y fun a ha=>ql ha hS
 ·refine Qy1 37 rfl fun a w H_ hle hS ha hd=>?_;exact ai ha Y Y fun a ha=>ql ha hS
 ·refine Qg 38 rfl fun a w H_ hle hS ha hd=>?_;exact ai ha Y Y fun a ha=>ql ha hS
 ·refine Qg 38 rfl fun a w H_ hle hS ha hd=>?_;refine id (aE (vs:= [(0,(iV 0))]) (cells:= [(iV 0)]) T43.und T3 hS ha (ha.evp Y) Y Y Y Y fun b191 a w hS ha=>?_);obtain⟨H191,hS,hle191,hb191⟩:=hS.give;exact qdone hle191 ha hS ⟨_,rfl,hb191⟩
 ·refine Qg 38 rfl fun a w H_ hle hS ha hd=>?_;obtain⟨_,ha,rfl⟩:=hd.g ha 39 rfl;obtain⟨_,ha,b191,rfl,hb191⟩:=hd.g ha 40 rfl;have hk192:=c_EqualI hS.inv.nil (RdI.of_row hS.inv hR144 0 rfl (by simp)) (RdI.of_data hS.inv (RowI.of_lit [0] hb191 (by simp) Y));rw [show decide (([0]: List Int)= [0])=true from by kernel_rfl] at hk192;exact Cs func44 ha Y (hk192) hS fun a w ha hS=>ql ha hS
 ·refine Qg 38 rfl fun a w H_ hle hS ha hd=>?_;obtain⟨_,ha,rfl⟩:=hd.g ha 41 rfl;exact aQ ha Y Y fun a ha=>ql ha hS
 ·refine Qy1 38 rfl fun a w H_ hle hS ha hd=>?_;obtain⟨_,ha,rfl⟩:=hd.g ha 42 rfl;exact ah ha Y Y Y fun a ha=>ql ha hS
 ·refine Qy1 43 rfl fun a w H_ hle hS ha hd=>?_;exact ai ha Y Y fun a ha=>ql ha hS
 ·refine Qg 44 rfl fun a w H_ hle hS ha hd=>?_;exact ai ha Y Y fun a ha=>ql ha hS
 ·refine Qg 44 rfl fun a w H_ hle hS ha hd=>?_;obtain⟨_,ha,rfl⟩:=hd.g ha 45 rfl;exact aQ ha Y Y fun a ha=>ql ha hS
 ·refine Qy1 44 rfl fun a w H_ hle hS ha hd=>?_;obtain⟨_,ha,rfl⟩:=hd.g ha 46 rfl;exact ah ha Y Y Y fun a ha=>ql ha hS
 obtain⟨_,ha,rfl⟩:=Dd ha hdr_ 47 rfl;refine aa (am ha Y (wp_skip (aa (wp_seq (ab ?_)))));have hk195:=c_New (n:=3) hS.inv.nil;rw [show newE 3=0 from by kernel_rfl] at hk195;refine lin Y (Co func24 ha Y (hk195) ?_);rintro e w ⟨H194,A194,c194,rfl,hr194,hc194⟩;refine⟨_,rfl,fun a ha=>?_⟩;have hS:=hS.call hc194;refine Lm Y ha fun a ha=>?_;refine lin Y (ap (v:=(.agg #[(.slice A194 ((newT 3).length) c194)])) ha Y Y Y fun a ha=>?_);refine lin Y (ap (v:=(iV 0)) ha Y Y Y fun a ha=>?_);refine lin Y (aC (cs:= #[(.slice none 0 0)]) T24 hS ha Y Y fun b196 a w hS ha=>?_);refine lin Y (aw (cs':= #[(.slice A194 ((newT 3).length) c194)]) T24 hS (i:=0) Y ha Y Y Y Y Y Y fun a w hS ha=>?_);refine Ls Y ha fun a ha=>?_;refine wpList_nil (aa (wp_seq ?_));have hS:=hS.front 1 rfl;have hS:=hS.drop;have hS:=hS.front 1 rfl;have hS:=hS.drop;have hS:=hS.front 1 rfl;have hS:=hS.drop;have hS_:=hS;refine As.c_draw_head (ini:=(As.il [])) (sup:=(As.sl [])) (als:= [9]) (s0:=⟨H194,fun _=>none⟩) (L:= [(some b196,(.cells #[(.slice A194 ((newT 3).length) c194)] 24 (0,0))),(some b1,(.cells aZ 26 (0,0)))]) (N:=386) (E:= [(1,(pB b1)),(4,(iV 0)),(11,(pB b196))]) 16 [FcV (.agg #[(.slice A194 ((newT 3).length) c194)]),As.lf (FcT q7),As.lf (FcT q0),As.lf (fun H v=> ∃ A c,v=.slice A 2 c∧RowT H A c [q7,q0]),As.lf (FcT q22),As.lf (FcT q0),As.lf (FcT q1),As.lf (fun H v=> ∃ A c,v=.slice A 2 c∧RowT H A c [q0,q1]),As.lf (FcT q3),fun s v=> ∃(A: Option Addr) (c: Nat) (en: Ent),s.ax 9=some [en]∧v=(.tuple #[(iV 3),(.slice A (([2,0,1]: List Int).length) c),(iV 0)])∧Row (.slice A (([2,0,1]: List Int).length) c) en 3 1 (([2,0,1]: List Int).length) (ints ([2,0,1]: List Int)),fun s v=> ∃(A: Option Addr) (c: Nat) (en: Ent),s.ax 9=some [en]∧v=(.tuple #[(iV 3),(.slice A (([2,0,1]: List Int).length) c),(iV 0)])∧Row (.slice A (([2,0,1]: List Int).length) c) en 3 1 (([2,0,1]: List Int).length) (ints ([2,0,1]: List Int)),FcV (iV 3),fun s v=> ∃(A: Option Addr) (c: Nat) (en: Ent),s.ax 9=some [en]∧v=(.slice A (([2,0,1]: List Int).length) c)∧Row (.slice A (([2,0,1]: List Int).length) c) en 3 1 (([2,0,1]: List Int).length) (ints ([2,0,1]: List Int)),FcV (iV 0),FcV (iV 3),fun s v=> ∃(A: Option Addr) (c: Nat) (en: Ent),s.ax 9=some [en]∧v=(.slice A (([2,0,1]: List Int).length) c)∧Row (.slice A (([2,0,1]: List Int).length) c) en 3 1 (([2,0,1]: List Int).length) (ints ([2,0,1]: List Int))] mixed (by kernel_rfl) (by kernel_rfl) (by kernel_rfl) (by repeat' (first | exact As.Monos.nil | refine As.Monos.cons ?_ ?_ |(intro _ _ _ hl h;exact h) |(rintro _ _ _ hl ⟨A,c,h,hr⟩;exact⟨A,c,h,hr.mono hl.le⟩) |(rintro _ _ _ hl ⟨b,h,hb⟩;exact⟨b,h,hl.le _ _ hb⟩) | exact fun _ _ _ hl ⟨A,c,en,h,e,hR⟩=>⟨A,c,en,hl.get h,e,hR⟩)) (fun _=>rfl) hS (ha.pk Y) (As.QuietsI.c4 ?_ ?_ ?_ ?_ (As.QuietsI.c4 ?_ ?_ ?_ ?_ (As.QuietsI.c4 ?_ ?_ ?_ ?_ (As.QuietsI.c4 ?_ ?_ ?_ ?_ (As.QuietsI.nil))))) (fun f_ a w s_ hls hS ha hdr_=>?_)
 ·refine As.Qx Y fun a w H_ ax_ hle hax_ hS ha hd hls=>?_;have hSf:=hS;have hS:=Step.dropN _ _ hS;exact ak (vs:= [(.slice A194 ((newT 3).length) c194)]) T24 Y ha Y (hS.blkL 0 rfl) Y (af Y) Y fun a ha=>As.ql ha hSf
 ·refine As.Qx Y fun a w H_ ax_ hle hax_ hS ha hd hls=>?_;have hSf:=hS;have hSr:=Step.dropN _ _ hS;have hk199:=bV (n:=2) hS.inv.nil;refine id (Co func39 ha Y (hk199) ?_);rintro e w ⟨H198,A198,c198,rfl,hr198,hc198⟩;refine⟨_,rfl,fun a ha=>?_⟩;have hS:=hS.call hc198;exact As.qdone (s:=⟨H_,ax_⟩) hc198.le ha hS ⟨A198,c198,rfl,hr198⟩
 ·refine As.Qx Y fun a w H_ ax_ hle hax_ hS ha hd hls=>?_;have hSf:=hS;have hSr:=Step.dropN _ _ hS;have hk201:=bV (n:=0) hS.inv.nil;refine id (Co func39 ha Y (hk201) ?_);rintro e w ⟨H200,A200,c200,rfl,hr200,hc200⟩;refine⟨_,rfl,fun a ha=>?_⟩;have hS:=hS.call hc200;exact As.qdone (s:=⟨H_,ax_⟩) hc200.le ha hS ⟨A200,c200,rfl,hr200⟩
 ·refine As.Qx Y fun a w H_ ax_ hle hax_ hS ha hd hls=>?_;obtain⟨_,ha,A198,c198,rfl,hr198⟩:=hd.g ha 1 rfl;obtain⟨_,ha,A200,c200,rfl,hr200⟩:=hd.g ha 2 rfl;have hSf:=hS;have hSr:=Step.dropN _ _ hS;refine id (aE (vs:= [(0,(tv q7 A198 c198)),(1,(tv q0 A200 c200))]) (cells:= [(iV q7.kind),(iV q7.n),(.string q7.s),(.slice A198 q7.l.length c198),(iV q0.kind),(iV q0.n),(.string q0.s),(.slice A200 q0.l.length c200)]) T22.und T26 hS ha (ha.evp Y) Y Y Y Y fun b202 a w hS ha=>?_);obtain⟨H202,hS,hle202,hb202⟩:=hS.give;have hr198:=hr198.mono hle202;have hr200:=hr200.mono hle202;have hr202: RowT H202 (some ⟨b202,0,none⟩) 2 [q7,q0]:=RowT.of_lit ([⟨q7,A198,c198⟩,⟨q0,A200,c200⟩]: List TV) hb202 (AllR.cons hr198 (AllR.cons hr200 (AllR.nil _))) (by simp) Y;exact As.qdone (s:=⟨H_,ax_⟩) hle202 ha hS ⟨_,_,rfl,hr202⟩
 ·refine As.Qx Y fun a w H_ ax_ hle hax_ hS ha hd hls=>?_;obtain⟨_,ha,A202,c202,rfl,hr202⟩:=hd.g ha 3 rfl;have hSf:=hS;have hSr:=Step.dropN _ _ hS;have hk204:=dU (s:=⟨#[102]⟩) hS.inv.nil hr202;refine id (Co func47 ha Y (hk204) ?_);rintro e w ⟨H203,A203,c203,rfl,hr203,hc203⟩;refine⟨_,rfl,fun a ha=>?_⟩;have hS:=hS.call hc203;exact As.qdone (s:=⟨H_,ax_⟩) hc203.le ha hS ⟨A203,c203,rfl,hr203⟩
 ·refine As.Qx Y fun a w H_ ax_ hle hax_ hS ha hd hls=>?_;have hSf:=hS;have hSr:=Step.dropN _ _ hS;have hk206:=bV (n:=0) hS.inv.nil;refine id (Co func39 ha Y (hk206) ?_);rintro e w ⟨H205,A205,c205,rfl,hr205,hc205⟩;refine⟨_,rfl,fun a ha=>?_⟩;have hS:=hS.call hc205;exact As.qdone (s:=⟨H_,ax_⟩) hc205.le ha hS ⟨A205,c205,rfl,hr205⟩
 ·refine As.Qx Y fun a w H_ ax_ hle hax_ hS ha hd hls=>?_;have hSf:=hS;have hSr:=Step.dropN _ _ hS;have hk208:=bV (n:=1) hS.inv.nil;refine id (Co func39 ha Y (hk208) ?_);rintro e w ⟨H207,A207,c207,rfl,hr207,hc207⟩;refine⟨_,rfl,fun a ha=>?_⟩;have hS:=hS.call hc207;exact As.qdone (s:=⟨H_,ax_⟩) hc207.le ha hS ⟨A207,c207,rfl,hr207⟩
 ·refine As.Qx Y fun a w H_ ax_ hle hax_ hS ha hd hls=>?_;obtain⟨_,ha,A205,c205,rfl,hr205⟩:=hd.g ha 5 rfl;obtain⟨_,ha,A207,c207,rfl,hr207⟩:=hd.g ha 6 rfl;have hSf:=hS;have hSr:=Step.dropN _ _ hS;refine id (aE (vs:= [(0,(tv q0 A205 c205)),(1,(tv q1 A207 c207))]) (cells:= [(iV q0.kind),(iV q0.n),(.string q0.s),(.slice A205 q0.l.length c205),(iV q1.kind),(iV q1.n),(.string q1.s),(.slice A207 q1.l.length c207)]) T22.und T26 hS ha (ha.evp Y) Y Y Y Y fun b209 a w hS ha=>?_);obtain⟨H209,hS,hle209,hb209⟩:=hS.give;have hr205:=hr205.mono hle209;have hr207:=hr207.mono hle209;have hr209: RowT H209 (some ⟨b209,0,none⟩) 2 [q0,q1]:=RowT.of_lit ([⟨q0,A205,c205⟩,⟨q1,A207,c207⟩]: List TV) hb209 (AllR.cons hr205 (AllR.cons hr207 (AllR.nil _))) (by simp) Y;exact As.qdone (s:=⟨H_,ax_⟩) hle209 ha hS ⟨_,_,rfl,hr209⟩
 ·refine As.Qx Y fun a w H_ ax_ hle hax_ hS ha hd hls=>?_;obtain⟨_,ha,A209,c209,rfl,hr209⟩:=hd.g ha 7 rfl;have hSf:=hS;have hSr:=Step.dropN _ _ hS;have hk211:=dU (s:=⟨#[102]⟩) hS.inv.nil hr209;refine id (Co func47 ha Y (hk211) ?_);rintro e w ⟨H210,A210,c210,rfl,hr210,hc210⟩;refine⟨_,rfl,fun a ha=>?_⟩;have hS:=hS.call hc210;exact As.qdone (s:=⟨H_,ax_⟩) hc210.le ha hS ⟨A210,c210,rfl,hr210⟩
 ·refine As.Qx1 0 rfl fun a w H_ ax_ hle hax_ hS ha hd hls=>?_;obtain⟨_,ha,A203,c203,rfl,hr203⟩:=hd.g ha 4 rfl;obtain⟨_,ha,A210,c210,rfl,hr210⟩:=hd.g ha 8 rfl;have hr194:=hr194.mono hle;have hS: Step w0 H [] w H_ ((As.aents (As.il []) (As.sl []) [] ax_++As.aents (As.il []) (As.sl []) [] ax_++ [(some b196,(.cells #[(.slice A194 ((newT 3).length) c194)] 24 (0,0))),(some b1,(.cells aZ 26 (0,0)))])):=As.opn (s:=⟨H_,ax_⟩) [] [9] [] [] rfl (As.con0 hax_ Y) hS;have hk213:=c_Ask hS.inv.nil hr194 hr203 hr210;rw [show (askU (newT 3) q22 q3).1.1=3 from by kernel_rfl] at hk213;rw [show (askU (newT 3) q22 q3).1.2=([2,0,1]: List Int) from by kernel_rfl] at hk213;rw [show (askU (newT 3) q22 q3).2=0 from by kernel_rfl] at hk213;refine id (Co func21 ha Y (hk213) ?_);rintro e w ⟨H212,A212,c212,en212,rfl,hR212,hc212⟩;refine⟨_,rfl,fun a ha=>?_⟩;have hS:=Step.frame (Lc:= []) hS hc212;exact As.qown (i:=9) (dst:=some 204) (s:=⟨H_,ax_⟩) (E:= [en212]) [] [9] [] rfl Y hax_ hc212.le ha.dfr (As.has_at ha) hS As.con1 ⟨_,_,_,rfl,rfl,hR212⟩
 ·refine As.Qx Y fun a w H_ ax_ hle hax_ hS ha hd hls=>?_;obtain⟨_,ha,A212,c212,en212,hx_212,rfl,hR212⟩:=hd.g ha 9 rfl;have hx_212: ax_ 9=some [en212]:=hx_212;have hSf:=hS;refine id (ai ha Y Y fun a ha=>?_);exact As.qdone (s:=⟨H_,ax_⟩) (Le.refl _) ha hSf ⟨A212,c212,en212,hx_212,rfl,hR212⟩
 ·refine As.Qx Y fun a w H_ ax_ hle hax_ hS ha hd hls=>?_;obtain⟨_,ha,A212,c212,en212,hx_212,rfl,hR212⟩:=hd.g ha 10 rfl;have hSf:=hS;exact ap (v:=(iV 3)) ha Y Y Y fun a ha=>As.ql ha hSf
 ·refine As.Qx Y fun a w H_ ax_ hle hax_ hS ha hd hls=>?_;obtain⟨_,ha,A212,c212,en212,hx_212,rfl,hR212⟩:=hd.g ha 10 rfl;have hSf:=hS;refine id (ap (v:=(.slice A212 (([2,0,1]: List Int).length) c212)) ha Y Y Y fun a ha=>?_);exact As.qdone (s:=⟨H_,ax_⟩) (Le.refl _) ha hSf ⟨A212,c212,en212,hx_212,rfl,hR212⟩
 ·refine As.Qx Y fun a w H_ ax_ hle hax_ hS ha hd hls=>?_;obtain⟨_,ha,A212,c212,en212,hx_212,rfl,hR212⟩:=hd.g ha 10 rfl;have hSf:=hS;exact ap (v:=(iV 0)) ha Y Y Y fun a ha=>As.ql ha hSf
 ·refine As.Qx1 11 rfl fun a w H_ ax_ hle hax_ hS ha hd hls=>?_;have hSf:=hS;exact aB ha Y Y fun a ha=>As.ql ha hSf
 ·refine As.Qx Y fun a w H_ ax_ hle hax_ hS ha hd hls=>?_;obtain⟨_,ha,A212,c212,en212,hx_212,rfl,hR212⟩:=hd.g ha 12 rfl;have hSf:=hS;refine id (aB ha Y Y fun a ha=>?_);exact As.qdone (s:=⟨H_,ax_⟩) (Le.refl _) ha hSf ⟨A212,c212,en212,hx_212,rfl,hR212⟩
 obtain⟨H215,ax_⟩:=s_;have hle215: Le H194 H215:=hls.le;dsimp only at hdr_ hS;have hr194:=hr194.mono hle215;obtain⟨_,hv_,A212,c212,en212,hx_212,rfl,hR212⟩:=hdr_ 9 _ _ Y Y;have hx_212: ax_ 9=some [en212]:=hx_212;obtain⟨_,ha,rfl⟩:=As.Dd ha hdr_ 13 rfl;obtain⟨_,ha,rfl⟩:=As.Dd ha hdr_ 14 rfl;obtain⟨_,ha,A212,c212,en212,hx_212,rfl,hR212⟩:=As.Dd ha hdr_ 15 rfl;have hx_212: ax_ 9=some [en212]:=hx_212;have hS: Step w0 H [] w H215 [en212,(some b196,(.cells #[(.slice A194 ((newT 3).length) c194)] 24 (0,0))),(some b1,(.cells aZ 26 (0,0)))]:=by
  have h_:=hS;unfold As.aents at h_;simp only [List.flatMap_cons,List.flatMap_nil,As.conE,show (As.sl []) 9=none from rfl,hx_212,Option.isSome_some,Option.getD_some,cond_true,cond_false,List.cons_append,List.nil_append,List.append_nil] at h_;exact h_
 refine any1 (i:=16) (by kernel_rfl) Y Y (aB ha Y Y fun a ha=>?_);refine any0 (by kernel_rfl) ?_;refine aa (wp_seq ?_);have hS_:=hS;refine As.c_draw_head (ini:=(As.il [])) (sup:=(As.sl [])) (als:= [7]) (s0:=⟨H215,fun _=>none⟩) (L:= [en212,(some b196,(.cells #[(.slice A194 ((newT 3).length) c194)] 24 (0,0))),(some b1,(.cells aZ 26 (0,0)))]) (N:=386) (E:= [(1,(pB b1)),(4,(iV 0)),(6,(iV 0)),(11,(pB b196)),(12,(iV 3)),(13,(.slice A212 (([2,0,1]: List Int).length) c212))]) 14 [FcV (.agg #[(.slice A194 ((newT 3).length) c194)]),As.lf (FcT q0),As.lf (fun H v=> ∃ A c,v=.slice A 1 c∧RowT H A c [q0]),As.lf (FcT q11),As.lf (FcT q1),As.lf (fun H v=> ∃ A c,v=.slice A 1 c∧RowT H A c [q1]),As.lf (FcT q12),fun s v=> ∃(A: Option Addr) (c: Nat) (en: Ent),s.ax 7=some [en]∧v=(.tuple #[(iV 2),(.slice A (([]: List Int).length) c),(iV 0)])∧Row (.slice A (([]: List Int).length) c) en 3 1 (([]: List Int).length) (ints ([]: List Int)),fun s v=> ∃(A: Option Addr) (c: Nat) (en: Ent),s.ax 7=some [en]∧v=(.tuple #[(iV 2),(.slice A (([]: List Int).length) c),(iV 0)])∧Row (.slice A (([]: List Int).length) c) en 3 1 (([]: List Int).length) (ints ([]: List Int)),FcV (iV 2),fun s v=> ∃(A: Option Addr) (c: Nat) (en: Ent),s.ax 7=some [en]∧v=(.slice A (([]: List Int).length) c)∧Row (.slice A (([]: List Int).length) c) en 3 1 (([]: List Int).length) (ints ([]: List Int)),FcV (iV 0),FcV (iV 2),fun s v=> ∃(A: Option Addr) (c: Nat) (en: Ent),s.ax 7=some [en]∧v=(.slice A (([]: List Int).length) c)∧Row (.slice A (([]: List Int).length) c) en 3 1 (([]: List Int).length) (ints ([]: List Int))] mixed (by kernel_rfl) (by kernel_rfl) (by kernel_rfl) (by repeat' (first | exact As.Monos.nil | refine As.Monos.cons ?_ ?_ |(intro _ _ _ hl h;exact h) |(rintro _ _ _ hl ⟨A,c,h,hr⟩;exact⟨A,c,h,hr.mono hl.le⟩) |(rintro _ _ _ hl ⟨b,h,hb⟩;exact⟨b,h,hl.le _ _ hb⟩) | exact fun _ _ _ hl ⟨A,c,en,h,e,hR⟩=>⟨A,c,en,hl.get h,e,hR⟩)) (fun _=>rfl) hS (ha.pk Y) (As.QuietsI.c4 ?_ ?_ ?_ ?_ (As.QuietsI.c4 ?_ ?_ ?_ ?_ (As.QuietsI.c4 ?_ ?_ ?_ ?_ (As.QuietsI.c2 ?_ ?_ (As.QuietsI.nil))))) (fun f_ a w s_ hls hS ha hdr_=>?_)
 ·refine As.Qx Y fun a w H_ ax_ hle hax_ hS ha hd hls=>?_;have hSf:=hS;have hS:=Step.dropN _ _ hS;exact ak (vs:= [(.slice A194 ((newT 3).length) c194)]) T24 Y ha Y (hS.blkL 1 rfl) Y (af Y) Y fun a ha=>As.ql ha hSf
 ·refine As.Qx Y fun a w H_ ax_ hle hax_ hS ha hd hls=>?_;have hSf:=hS;have hSr:=Step.dropN _ _ hS;have hk217:=bV (n:=0) hS.inv.nil;refine id (Co func39 ha Y (hk217) ?_);rintro e w ⟨H216,A216,c216,rfl,hr216,hc216⟩;refine⟨_,rfl,fun a ha=>?_⟩;have hS:=hS.call hc216;exact As.qdone (s:=⟨H_,ax_⟩) hc216.le ha hS ⟨A216,c216,rfl,hr216⟩
 ·refine As.Qx Y fun a w H_ ax_ hle hax_ hS ha hd hls=>?_;obtain⟨_,ha,A216,c216,rfl,hr216⟩:=hd.g ha 1 rfl;have hSf:=hS;have hSr:=Step.dropN _ _ hS;refine id (aE (vs:= [(0,(tv q0 A216 c216))]) (cells:=(tL q0 A216 c216)) T22.und T26 hS ha (ha.evp Y) Y Y Y Y fun b218 a w hS ha=>?_);obtain⟨H218,hS,hle218,hb218⟩:=hS.give;have hr216:=hr216.mono hle218;have hr218: RowT H218 (some ⟨b218,0,none⟩) 1 [q0]:=RowT.of_lit ([⟨q0,A216,c216⟩]: List TV) hb218 (AllR.cons hr216 (AllR.nil _)) (by simp) Y;exact As.qdone (s:=⟨H_,ax_⟩) hle218 ha hS ⟨_,_,rfl,hr218⟩
 ·refine As.Qx Y fun a w H_ ax_ hle hax_ hS ha hd hls=>?_;obtain⟨_,ha,A218,c218,rfl,hr218⟩:=hd.g ha 2 rfl;have hSf:=hS;have hSr:=Step.dropN _ _ hS;have hk220:=dU (s:=⟨#[102]⟩) hS.inv.nil hr218;refine id (Co func47 ha Y (hk220) ?_);rintro e w ⟨H219,A219,c219,rfl,hr219,hc219⟩;refine⟨_,rfl,fun a ha=>?_⟩;have hS:=hS.call hc219;exact As.qdone (s:=⟨H_,ax_⟩) hc219.le ha hS ⟨A219,c219,rfl,hr219⟩
 ·refine As.Qx Y fun a w H_ ax_ hle hax_ hS ha hd hls=>?_;have hSf:=hS;have hSr:=Step.dropN _ _ hS;have hk222:=bV (n:=1) hS.inv.nil;refine id (Co func39 ha Y (hk222) ?_);rintro e w ⟨H221,A221,c221,rfl,hr221,hc221⟩;refine⟨_,rfl,fun a ha=>?_⟩;have hS:=hS.call hc221;exact As.qdone (s:=⟨H_,ax_⟩) hc221.le ha hS ⟨A221,c221,rfl,hr221⟩
 ·refine As.Qx Y fun a w H_ ax_ hle hax_ hS ha hd hls=>?_;obtain⟨_,ha,A221,c221,rfl,hr221⟩:=hd.g ha 4 rfl;have hSf:=hS;have hSr:=Step.dropN _ _ hS;refine id (aE (vs:= [(0,(tv q1 A221 c221))]) (cells:=(tL q1 A221 c221)) T22.und T26 hS ha (ha.evp Y) Y Y Y Y fun b223 a w hS ha=>?_);obtain⟨H223,hS,hle223,hb223⟩:=hS.give;have hr221:=hr221.mono hle223;have hr223: RowT H223 (some ⟨b223,0,none⟩) 1 [q1]:=RowT.of_lit ([⟨q1,A221,c221⟩]: List TV) hb223 (AllR.cons hr221 (AllR.nil _)) (by simp) Y;exact As.qdone (s:=⟨H_,ax_⟩) hle223 ha hS ⟨_,_,rfl,hr223⟩
 ·refine As.Qx Y fun a w H_ ax_ hle hax_ hS ha hd hls=>?_;obtain⟨_,ha,A223,c223,rfl,hr223⟩:=hd.g ha 5 rfl;have hSf:=hS;have hSr:=Step.dropN _ _ hS;have hk225:=dU (s:=⟨#[103]⟩) hS.inv.nil hr223;refine id (Co func47 ha Y (hk225) ?_);rintro e w ⟨H224,A224,c224,rfl,hr224,hc224⟩;refine⟨_,rfl,fun a ha=>?_⟩;have hS:=hS.call hc224;exact As.qdone (s:=⟨H_,ax_⟩) hc224.le ha hS ⟨A224,c224,rfl,hr224⟩
 ·refine As.Qx1 0 rfl fun a w H_ ax_ hle hax_ hS ha hd hls=>?_;obtain⟨_,ha,A219,c219,rfl,hr219⟩:=hd.g ha 3 rfl;obtain⟨_,ha,A224,c224,rfl,hr224⟩:=hd.g ha 6 rfl;have hr194:=hr194.mono hle;have hS: Step w0 H [] w H_ ((As.aents (As.il []) (As.sl []) [] ax_++As.aents (As.il []) (As.sl []) [] ax_++ [en212,(some b196,(.cells #[(.slice A194 ((newT 3).length) c194)] 24 (0,0))),(some b1,(.cells aZ 26 (0,0)))])):=As.opn (s:=⟨H_,ax_⟩) [] [7] [] [] rfl (As.con0 hax_ Y) hS;have hk227:=c_Ask hS.inv.nil hr194 hr219 hr224;rw [show (askU (newT 3) q11 q12).1.1=2 from by kernel_rfl] at hk227;rw [show (askU (newT 3) q11 q12).1.2=([]: List Int) from by kernel_rfl] at hk227;rw [show (askU (newT 3) q11 q12).2=0 from by kernel_rfl] at hk227;refine id (Co func21 ha Y (hk227) ?_);rintro e w ⟨H226,A226,c226,en226,rfl,hR226,hc226⟩;refine⟨_,rfl,fun a ha=>?_⟩;have hS:=Step.frame (Lc:= []) hS hc226;exact As.qown (i:=7) (dst:=some 216) (s:=⟨H_,ax_⟩) (E:= [en226]) [] [7] [] rfl Y hax_ hc226.le ha.dfr (As.has_at ha) hS As.con1 ⟨_,_,_,rfl,rfl,hR226⟩
 ·refine As.Qx Y fun a w H_ ax_ hle hax_ hS ha hd hls=>?_;obtain⟨_,ha,A226,c226,en226,hx_226,rfl,hR226⟩:=hd.g ha 7 rfl;have hx_226: ax_ 7=some [en226]:=hx_226;have hSf:=hS;refine id (ai ha Y Y fun a ha=>?_);exact As.qdone (s:=⟨H_,ax_⟩) (Le.refl _) ha hSf ⟨A226,c226,en226,hx_226,rfl,hR226⟩
 ·refine As.Qx Y fun a w H_ ax_ hle hax_ hS ha hd hls=>?_;obtain⟨_,ha,A226,c226,en226,hx_226,rfl,hR226⟩:=hd.g ha 8 rfl;have hSf:=hS;exact ap (v:=(iV 2)) ha Y Y Y fun a ha=>As.ql ha hSf
 ·refine As.Qx Y fun a w H_ ax_ hle hax_ hS ha hd hls=>?_;obtain⟨_,ha,A226,c226,en226,hx_226,rfl,hR226⟩:=hd.g ha 8 rfl;have hSf:=hS;refine id (ap (v:=(.slice A226 (([]: List Int).length) c226)) ha Y Y Y fun a ha=>?_);exact As.qdone (s:=⟨H_,ax_⟩) (Le.refl _) ha hSf ⟨A226,c226,en226,hx_226,rfl,hR226⟩
 ·refine As.Qx Y fun a w H_ ax_ hle hax_ hS ha hd hls=>?_;obtain⟨_,ha,A226,c226,en226,hx_226,rfl,hR226⟩:=hd.g ha 8 rfl;have hSf:=hS;exact ap (v:=(iV 0)) ha Y Y Y fun a ha=>As.ql ha hSf
 ·refine As.Qx1 9 rfl fun a w H_ ax_ hle hax_ hS ha hd hls=>?_;have hSf:=hS;exact aB ha Y Y fun a ha=>As.ql ha hSf
 ·refine As.Qx Y fun a w H_ ax_ hle hax_ hS ha hd hls=>?_;obtain⟨_,ha,A226,c226,en226,hx_226,rfl,hR226⟩:=hd.g ha 10 rfl;have hSf:=hS;refine id (aB ha Y Y fun a ha=>?_);exact As.qdone (s:=⟨H_,ax_⟩) (Le.refl _) ha hSf ⟨A226,c226,en226,hx_226,rfl,hR226⟩
 obtain⟨H229,ax_⟩:=s_;have hle229: Le H215 H229:=hls.le;dsimp only at hdr_ hS;obtain⟨_,hv_,A226,c226,en226,hx_226,rfl,hR226⟩:=hdr_ 7 _ _ Y Y;have hx_226: ax_ 7=some [en226]:=hx_226;obtain⟨_,ha,rfl⟩:=As.Dd ha hdr_ 11 rfl;obtain⟨_,ha,rfl⟩:=As.Dd ha hdr_ 12 rfl;obtain⟨_,ha,A226,c226,en226,hx_226,rfl,hR226⟩:=As.Dd ha hdr_ 13 rfl;have hx_226: ax_ 7=some [en226]:=hx_226;have hS: Step w0 H [] w H229 [en226,en212,(some b196,(.cells #[(.slice A194 ((newT 3).length) c194)] 24 (0,0))),(some b1,(.cells aZ 26 (0,0)))]:=by
  have h_:=hS;unfold As.aents at h_;simp only [List.flatMap_cons,List.flatMap_nil,As.conE,show (As.sl []) 7=none from rfl,hx_226,Option.isSome_some,Option.getD_some,cond_true,cond_false,List.cons_append,List.nil_append,List.append_nil] at h_;exact h_
 refine any1 (i:=14) (by kernel_rfl) Y Y (aB ha Y Y fun a ha=>?_);refine any0 (by kernel_rfl) ?_;refine aa (wp_seq (wp_seq ?_));have hS:=hS.drop;have hS:=hS.front 1 rfl;have hS:=hS.drop;have hS_:=hS;refine a9 bF [FcV (iV 0),FcV (.bool false),FcV (.bool false),FcV (iV 0),FcV (.bool false),FcV (.bool false),FcV (.bool false),FcV (iV 0),FcV (.bool false),FcV (.bool false),FcV (.bool false),FcV (iV 3),FcV (.bool false),FcV (.bool false),FcV (.bool false),FcV (.slice A212 (([2,0,1]: List Int).length) c212),fun H v=> ∃ b,v=.slice (some ⟨b,0,none⟩) 3 3∧H b=some (.cells #[(iV 2),(iV 0),(iV 1)] 3 (0,0)),FcV (.bool true),FcV (.bool false),FcV (.bool false),FcV (.bool false),FcV (iV 2),FcV (.bool false),FcV (.bool false),FcV (.bool false),FcT q1,FcV vZ,fun H v=> ∃ A c,v=.slice A 2 c∧RowT H A c [q1,tZ],fun H v=> ∃ A c,v=(.agg #[(.slice A k23.length c)])∧RowT H A c k23,FcV (iV 30),FcV (.bool false),FcV (.bool false),FcV (.bool false),FcT q0,fun H v=> ∃ A c,v=.slice A 1 c∧RowT H A c [q0],FcT q11,fun H v=> ∃ A c,v=.slice A 1 c∧RowT H A c [q11],fun H v=> ∃ A c,v=(.agg #[(.slice A k24.length c)])∧RowT H A c k24,FcV (iV 30),FcV (.bool false),FcV (.bool false),FcV (.bool false),FcT q1,fun H v=> ∃ A c,v=.slice A 1 c∧RowT H A c [q1],FcT q25,FcT q4,fun H v=> ∃ A c,v=.slice A 2 c∧RowT H A c [q25,q4],fun H v=> ∃ A c,v=(.agg #[(.slice A k26.length c)])∧RowT H A c k26,FcV (iV 0),FcV (.bool false),FcV (.bool false)] (N:=386) (E:= [(1,(pB b1)),(4,(iV 0)),(6,(iV 0)),(8,(iV 0)),(12,(iV 3)),(13,(.slice A212 (([2,0,1]: List Int).length) c212)),(14,(iV 2))]) mixed (by kernel_rfl) (by repeat' (first | exact Monos.nil | refine Monos.cons ?_ ?_ |(intro _ _ _ hl h;exact h) |(rintro _ _ _ hl ⟨A,c,h,hr⟩;exact⟨A,c,h,hr.mono hl⟩) |(rintro _ _ _ hl ⟨b,h,hb⟩;exact⟨b,h,hl _ _ hb⟩))) hS (ha.pk Y) (.c4 ?_ ?_ ?_ ?_ (.c4 ?_ ?_ ?_ ?_ (.c4 ?_ ?_ ?_ ?_ (.c4 ?_ ?_ ?_ ?_ (.c4 ?_ ?_ ?_ ?_ (.c4 ?_ ?_ ?_ ?_ (.c4 ?_ ?_ ?_ ?_ (.c4 ?_ ?_ ?_ ?_ (.c4 ?_ ?_ ?_ ?_ (.c4 ?_ ?_ ?_ ?_ (.c4 ?_ ?_ ?_ ?_ (.c4 ?_ ?_ ?_ ?_ (.c2 ?_ ?_ (.cons ?_ (.nil))))))))))))))) (fun a w H258 hle258 hS ha hdr_=>?_)
 ·refine Qy Y fun a w H_ hle hS ha hd=>?_;exact ai ha Y Y fun a ha=>ql ha hS
 ·refine Qy1 0 rfl fun a w H_ hle hS ha hd=>?_;exact a8 (i:=0) (j:=0) ha Y Y Y fun a ha=>ql ha hS
 ·refine Qy1 1 rfl fun a w H_ hle hS ha hd=>?_;exact ai ha Y Y fun a ha=>ql ha hS
 ·refine Qg 2 rfl fun a w H_ hle hS ha hd=>?_;exact ai ha Y Y fun a ha=>ql ha hS
 ·refine Qg 2 rfl fun a w H_ hle hS ha hd=>?_;obtain⟨_,ha,rfl⟩:=hd.g ha 3 rfl;exact a8 (i:=0) (j:=0) ha Y Y Y fun a ha=>ql ha hS
 ·refine Qy1 2 rfl fun a w H_ hle hS ha hd=>?_;obtain⟨_,ha,rfl⟩:=hd.g ha 4 rfl;exact ah ha Y Y Y fun a ha=>ql ha hS
 ·refine Qy1 5 rfl fun a w H_ hle hS ha hd=>?_;exact ai ha Y Y fun a ha=>ql ha hS
 ·refine Qg 6 rfl fun a w H_ hle hS ha hd=>?_;exact ai ha Y Y fun a ha=>ql ha hS
 ·refine Qg 6 rfl fun a w H_ hle hS ha hd=>?_;obtain⟨_,ha,rfl⟩:=hd.g ha 7 rfl;exact a8 (i:=0) (j:=0) ha Y Y Y fun a ha=>ql ha hS
 ·refine Qy1 6 rfl fun a w H_ hle hS ha hd=>?_;obtain⟨_,ha,rfl⟩:=hd.g ha 8 rfl;exact ah ha Y Y Y fun a ha=>ql ha hS
 ·refine Qy1 9 rfl fun a w H_ hle hS ha hd=>?_;exact ai ha Y Y fun a ha=>ql ha hS
 ·refine Qg 10 rfl fun a w H_ hle hS ha hd=>?_;exact ai ha Y Y fun a ha=>ql ha hS
 ·refine Qg 10 rfl fun a w H_ hle hS ha hd=>?_;obtain⟨_,ha,rfl⟩:=hd.g ha 11 rfl;exact a8 (i:=3) (j:=3) ha Y Y Y fun a ha=>ql ha hS
 ·refine Qy1 10 rfl fun a w H_ hle hS ha hd=>?_;obtain⟨_,ha,rfl⟩:=hd.g ha 12 rfl;exact ah ha Y Y Y fun a ha=>ql ha hS
 ·refine Qy1 13 rfl fun a w H_ hle hS ha hd=>?_;exact ai ha Y Y fun a ha=>ql ha hS
 ·refine Qg 14 rfl fun a w H_ hle hS ha hd=>?_;exact ai ha Y Y fun a ha=>ql ha hS
 ·refine Qg 14 rfl fun a w H_ hle hS ha hd=>?_;refine id (aE (vs:= [(0,(iV 2)),(1,(iV 0)),(2,(iV 1))]) (cells:= [(iV 2),(iV 0),(iV 1)]) T43.und T3 hS ha (ha.evp Y) Y Y Y Y fun b230 a w hS ha=>?_);obtain⟨H230,hS,hle230,hb230⟩:=hS.give;exact qdone hle230 ha hS ⟨_,rfl,hb230⟩
 ·refine Qg 14 rfl fun a w H_ hle hS ha hd=>?_;obtain⟨_,ha,rfl⟩:=hd.g ha 15 rfl;obtain⟨_,ha,b230,rfl,hb230⟩:=hd.g ha 16 rfl;have hk231:=c_EqualI hS.inv.nil (RdI.of_row hS.inv hR212 0 rfl (by simp)) (RdI.of_data hS.inv (RowI.of_lit [2,0,1] hb230 (by simp) Y));rw [show decide (([2,0,1]: List Int)= [2,0,1])=true from by kernel_rfl] at hk231;exact Cs func44 ha Y (hk231) hS fun a w ha hS=>ql ha hS
 ·refine Qg 14 rfl fun a w H_ hle hS ha hd=>?_;obtain⟨_,ha,rfl⟩:=hd.g ha 17 rfl;exact aQ ha Y Y fun a ha=>ql ha hS
 ·refine Qy1 14 rfl fun a w H_ hle hS ha hd=>?_;obtain⟨_,ha,rfl⟩:=hd.g ha 18 rfl;exact ah ha Y Y Y fun a ha=>ql ha hS
 ·refine Qy1 19 rfl fun a w H_ hle hS ha hd=>?_;exact ai ha Y Y fun a ha=>ql ha hS
 ·refine Qg 20 rfl fun a w H_ hle hS ha hd=>?_;exact ai ha Y Y fun a ha=>ql ha hS
 ·refine Qg 20 rfl fun a w H_ hle hS ha hd=>?_;obtain⟨_,ha,rfl⟩:=hd.g ha 21 rfl;exact a8 (i:=2) (j:=2) ha Y Y Y fun a ha=>ql ha hS
 ·refine Qy1 20 rfl fun a w H_ hle hS ha hd=>?_;obtain⟨_,ha,rfl⟩:=hd.g ha 22 rfl;exact ah ha Y Y Y fun a ha=>ql ha hS
 ·refine Qy1 23 rfl fun a w H_ hle hS ha hd=>?_;exact ai ha Y Y fun a ha=>ql ha hS
 ·refine Qg 24 rfl fun a w H_ hle hS ha hd=>?_;exact Qd func39 ha Y (bV (n:=1) hS.inv.nil) hS
 ·refine Qg 24 rfl fun a w H_ hle hS ha hd=>?_;exact ak (vs:=lZ) T26 Y ha Y (hS.blkL 1 rfl) Y (af Y) Y fun a ha=>ql ha hS
 ·refine Qg 24 rfl fun a w H_ hle hS ha hd=>?_;obtain⟨_,ha,A232,c232,rfl,hr232⟩:=hd.g ha 25 rfl;obtain⟨_,ha,rfl⟩:=hd.g ha 26 rfl;refine id (aE (vs:= [(0,(tv q1 A232 c232)),(1,vZ)]) (cells:= [(iV q1.kind),(iV q1.n),(.string q1.s),(.slice A232 q1.l.length c232),(iV 0),(iV 0),(.string (⟨#[]⟩)),(.slice none 0 0)]) T22.und T26 hS ha (ha.evp Y) Y Y Y Y fun b234 a w hS ha=>?_);obtain⟨H234,hS,hle234,hb234⟩:=hS.give;have hr232:=hr232.mono hle234;have hr234: RowT H234 (some ⟨b234,0,none⟩) 2 [q1,tZ]:=RowT.of_lit ([⟨q1,A232,c232⟩,⟨tZ,none,0⟩]: List TV) hb234 (AllR.cons hr232 (AllR.cons (RowT.nil _) (AllR.nil _))) (by simp) Y;exact qdone hle234 ha hS ⟨_,_,rfl,hr234⟩
 ·refine Qg 24 rfl fun a w H_ hle hS ha hd=>?_;obtain⟨_,ha,A234,c234,rfl,hr234⟩:=hd.g ha 27 rfl;exact Qd func46 ha Y (aP hS.inv.nil hr234) hS
 ·refine Qg 24 rfl fun a w H_ hle hS ha hd=>?_;obtain⟨_,ha,A235,c235,rfl,hr235⟩:=hd.g ha 28 rfl;have hk237:=bU hS.inv.nil hr235;rw [show stE k23=30 from by kernel_rfl] at hk237;exact Cs func16 ha Y (hk237) hS fun a w ha hS=>ql ha hS
 ·refine Qg 24 rfl fun a w H_ hle hS ha hd=>?_;obtain⟨_,ha,rfl⟩:=hd.g ha 29 rfl;exact a8 (i:=30) (j:=30) ha Y Y Y fun a ha=>ql ha hS
 ·refine Qy1 24 rfl fun a w H_ hle hS ha hd=>?_;obtain⟨_,ha,rfl⟩:=hd.g ha 30 rfl;exact ah ha Y Y Y fun a ha=>ql ha hS
 ·refine Qy1 31 rfl fun a w H_ hle hS ha hd=>?_;exact ai ha Y Y fun a ha=>ql ha hS
 ·refine Qg 32 rfl fun a w H_ hle hS ha hd=>?_;exact Qd func39 ha Y (bV (n:=0) hS.inv.nil) hS
 ·refine Qg 32 rfl fun a w H_ hle hS ha hd=>?_;obtain⟨_,ha,A238,c238,rfl,hr238⟩:=hd.g ha 33 rfl;refine id (aE (vs:= [(0,(tv q0 A238 c238))]) (cells:=(tL q0 A238 c238)) T22.und T26 hS ha (ha.evp Y) Y Y Y Y fun b240 a w hS ha=>?_);obtain⟨H240,hS,hle240,hb240⟩:=hS.give;have hr238:=hr238.mono hle240;have hr240: RowT H240 (some ⟨b240,0,none⟩) 1 [q0]:=RowT.of_lit ([⟨q0,A238,c238⟩]: List TV) hb240 (AllR.cons hr238 (AllR.nil _)) (by simp) Y;exact qdone hle240 ha hS ⟨_,_,rfl,hr240⟩
 ·refine Qg 32 rfl fun a w H_ hle hS ha hd=>?_;obtain⟨_,ha,A240,c240,rfl,hr240⟩:=hd.g ha 34 rfl;exact Qd func47 ha Y (dU (s:=⟨#[102]⟩) hS.inv.nil hr240) hS
 ·refine Qg 32 rfl fun a w H_ hle hS ha hd=>?_;obtain⟨_,ha,A241,c241,rfl,hr241⟩:=hd.g ha 35 rfl;refine id (aE (vs:= [(0,(tv q11 A241 c241))]) (cells:=(tL q11 A241 c241)) T22.und T26 hS ha (ha.evp Y) Y Y Y Y fun b243 a w hS ha=>?_);obtain⟨H243,hS,hle243,hb243⟩:=hS.give;have hr241:=hr241.mono hle243;have hr243: RowT H243 (some ⟨b243,0,none⟩) 1 [q11]:=RowT.of_lit ([⟨q11,A241,c241⟩]: List TV) hb243 (AllR.cons hr241 (AllR.nil _)) (by simp) Y;exact qdone hle243 ha hS ⟨_,_,rfl,hr243⟩
 ·refine Qg 32 rfl fun a w H_ hle hS ha hd=>?_;obtain⟨_,ha,A243,c243,rfl,hr243⟩:=hd.g ha 36 rfl;exact Qd func46 ha Y (aP hS.inv.nil hr243) hS
 ·refine Qg 32 rfl fun a w H_ hle hS ha hd=>?_;obtain⟨_,ha,A244,c244,rfl,hr244⟩:=hd.g ha 37 rfl;have hk246:=bU hS.inv.nil hr244;rw [show stE k24=30 from by kernel_rfl] at hk246;exact Cs func16 ha Y (hk246) hS fun a w ha hS=>ql ha hS
 ·refine Qg 32 rfl fun a w H_ hle hS ha hd=>?_;obtain⟨_,ha,rfl⟩:=hd.g ha 38 rfl;exact a8 (i:=30) (j:=30) ha Y Y Y fun a ha=>ql ha hS
 ·refine Qy1 32 rfl fun a w H_ hle hS ha hd=>?_;obtain⟨_,ha,rfl⟩:=hd.g ha 39 rfl;exact ah ha Y Y Y fun a ha=>ql ha hS
 ·refine Qy1 40 rfl fun a w H_ hle hS ha hd=>?_;exact ai ha Y Y fun a ha=>ql ha hS
 ·refine Qg 41 rfl fun a w H_ hle hS ha hd=>?_;exact Qd func39 ha Y (bV (n:=1) hS.inv.nil) hS
 ·refine Qg 41 rfl fun a w H_ hle hS ha hd=>?_;obtain⟨_,ha,A247,c247,rfl,hr247⟩:=hd.g ha 42 rfl;refine id (aE (vs:= [(0,(tv q1 A247 c247))]) (cells:=(tL q1 A247 c247)) T22.und T26 hS ha (ha.evp Y) Y Y Y Y fun b249 a w hS ha=>?_);obtain⟨H249,hS,hle249,hb249⟩:=hS.give;have hr247:=hr247.mono hle249;have hr249: RowT H249 (some ⟨b249,0,none⟩) 1 [q1]:=RowT.of_lit ([⟨q1,A247,c247⟩]: List TV) hb249 (AllR.cons hr247 (AllR.nil _)) (by simp) Y;exact qdone hle249 ha hS ⟨_,_,rfl,hr249⟩
 ·refine Qg 41 rfl fun a w H_ hle hS ha hd=>?_;obtain⟨_,ha,A249,c249,rfl,hr249⟩:=hd.g ha 43 rfl;exact Qd func47 ha Y (dU (s:=⟨#[102]⟩) hS.inv.nil hr249) hS
 ·refine Qg 41 rfl fun a w H_ hle hS ha hd=>?_;exact Qd func23 ha Y (c_a (s:=⟨#[97]⟩) hS.inv.nil) hS
 ·refine Qg 41 rfl fun a w H_ hle hS ha hd=>?_;obtain⟨_,ha,A250,c250,rfl,hr250⟩:=hd.g ha 44 rfl;obtain⟨_,ha,A252,c252,rfl,hr252⟩:=hd.g ha 45 rfl;refine id (aE (vs:= [(0,(tv q25 A250 c250)),(1,(tv q4 A252 c252))]) (cells:= [(iV q25.kind),(iV q25.n),(.string q25.s),(.slice A250 q25.l.length c250),(iV q4.kind),(iV q4.n),(.string q4.s),(.slice A252 q4.l.length c252)]) T22.und T26 hS ha (ha.evp Y) Y Y Y Y fun b254 a w hS ha=>?_);obtain⟨H254,hS,hle254,hb254⟩:=hS.give;have hr250:=hr250.mono hle254;have hr252:=hr252.mono hle254;have hr254: RowT H254 (some ⟨b254,0,none⟩) 2 [q25,q4]:=RowT.of_lit ([⟨q25,A250,c250⟩,⟨q4,A252,c252⟩]: List TV) hb254 (AllR.cons hr250 (AllR.cons hr252 (AllR.nil _))) (by simp) Y;exact qdone hle254 ha hS ⟨_,_,rfl,hr254⟩
 ·refine Qg 41 rfl fun a w H_ hle hS ha hd=>?_;obtain⟨_,ha,A254,c254,rfl,hr254⟩:=hd.g ha 46 rfl;exact Qd func46 ha Y (aP hS.inv.nil hr254) hS
 ·refine Qg 41 rfl fun a w H_ hle hS ha hd=>?_;obtain⟨_,ha,A255,c255,rfl,hr255⟩:=hd.g ha 47 rfl;have hk257:=bU hS.inv.nil hr255;rw [show stE k26=0 from by kernel_rfl] at hk257;exact Cs func16 ha Y (hk257) hS fun a w ha hS=>ql ha hS
 ·refine Qg 41 rfl fun a w H_ hle hS ha hd=>?_;obtain⟨_,ha,rfl⟩:=hd.g ha 48 rfl;exact a8 (i:=0) (j:=0) ha Y Y Y fun a ha=>ql ha hS
 ·refine Qy1 41 rfl fun a w H_ hle hS ha hd=>?_;obtain⟨_,ha,rfl⟩:=hd.g ha 49 rfl;exact ah ha Y Y Y fun a ha=>ql ha hS
 obtain⟨_,ha,rfl⟩:=Dd ha hdr_ 50 rfl;refine aa (am ha Y (wp_skip (aa (wp_seq ?_))));have hS:=hS.drop;have hS_:=hS;refine As.c_draw_head (ini:=(As.il [])) (sup:=(As.sl [(16,17)])) (als:= [16,17]) (s0:=⟨H258,fun _=>none⟩) (L:= [(some b1,(.cells aZ 26 (0,0)))]) (N:=386) (E:= [(1,(pB b1))]) 19 [As.lf (FcT q1),As.lf (fun H v=> ∃ A c,v=.slice A 1 c∧RowT H A c [q1]),As.lf (FcT q25),FcV vZ,As.lf (fun H v=> ∃ A c,v=.slice A 2 c∧RowT H A c [q25,tZ]),As.lf (fun H v=> ∃ A c,v=(.agg #[(.slice A k27.length c)])∧RowT H A c k27),FcV vZ,As.lf (FcT q4),As.lf (FcT q0),As.lf (fun H v=> ∃ A c,v=.slice A 3 c∧RowT H A c [tZ,q4,q0]),As.lf (fun H v=> ∃ A c,v=(.agg #[(.slice A k28.length c)])∧RowT H A c k28),As.lf (fun H v=> ∃ A c,v=(.tuple #[(.agg #[(.slice A k29.length c)]),(.bool true),(iV 0)])∧RowT H A c k29),As.lf (fun H v=> ∃ A c,v=(.tuple #[(.agg #[(.slice A k29.length c)]),(.bool true),(iV 0)])∧RowT H A c k29),As.lf (fun H v=> ∃ A c,v=(.agg #[(.slice A k29.length c)])∧RowT H A c k29),FcV (.bool true),FcV (iV 0),fun s v=> ∃ b,s.ax 16=some [(some b,(.cells #[(.slice none 0 0)] 24 (0,0)))]∧v=.pointer (some ⟨b,0,none⟩),fun s _=> ∃(b: Nat) (A: Option Addr) (c: Nat),s.ax 16=some [(some b,(.cells #[(.slice none 0 0)] 24 (0,0)))]∧s.ax 17=some [(some b,(.cells #[(.slice A k29.length c)] 24 (0,0)))]∧RowT s.H A c k29,FcV (.bool true)] mixed (by kernel_rfl) (by kernel_rfl) (by kernel_rfl) (by repeat' (first | exact As.Monos.nil | refine As.Monos.cons ?_ ?_ |(intro _ _ _ hl h;exact h) |(rintro _ _ _ hl ⟨A,c,h,hr⟩;exact⟨A,c,h,hr.mono hl.le⟩) |(rintro _ _ _ hl ⟨b,h,hb⟩;exact⟨b,h,hl.le _ _ hb⟩) | exact fun _ _ _ hl ⟨b,A,c,h1,h2,hr⟩=>⟨b,A,c,hl.get h1,hl.get h2,hr.mono hl.le⟩ | exact fun _ _ _ hl ⟨b,h,e⟩=>⟨b,hl.get h,e⟩)) (fun _=>rfl) hS (ha.pk Y) (As.QuietsI.c4 ?_ ?_ ?_ ?_ (As.QuietsI.c4 ?_ ?_ ?_ ?_ (As.QuietsI.c4 ?_ ?_ ?_ ?_ (As.QuietsI.c4 ?_ ?_ ?_ ?_ (As.QuietsI.c2 ?_ ?_ (As.QuietsI.cons ?_ (As.QuietsI.nil))))))) (fun f_ a w s_ hls hS ha hdr_=>?_)
 ·refine As.Qx Y fun a w H_ ax_ hle hax_ hS ha hd hls=>?_;have hSf:=hS;have hSr:=Step.dropN _ _ hS;have hk260:=bV (n:=1) hS.inv.nil;refine id (Co func39 ha Y (hk260) ?_);rintro e w ⟨H259,A259,c259,rfl,hr259,hc259⟩;refine⟨_,rfl,fun a ha=>?_⟩;have hS:=hS.call hc259;exact As.qdone (s:=⟨H_,ax_⟩) hc259.le ha hS ⟨A259,c259,rfl,hr259⟩
 ·refine As.Qx Y fun a w H_ ax_ hle hax_ hS ha hd hls=>?_;obtain⟨_,ha,A259,c259,rfl,hr259⟩:=hd.g ha 0 rfl;have hSf:=hS;have hSr:=Step.dropN _ _ hS;refine id (aE (vs:= [(0,(tv q1 A259 c259))]) (cells:=(tL q1 A259 c259)) T22.und T26 hS ha (ha.evp Y) Y Y Y Y fun b261 a w hS ha=>?_);obtain⟨H261,hS,hle261,hb261⟩:=hS.give;have hr259:=hr259.mono hle261;have hr261: RowT H261 (some ⟨b261,0,none⟩) 1 [q1]:=RowT.of_lit ([⟨q1,A259,c259⟩]: List TV) hb261 (AllR.cons hr259 (AllR.nil _)) (by simp) Y;exact As.qdone (s:=⟨H_,ax_⟩) hle261 ha hS ⟨_,_,rfl,hr261⟩
 ·refine As.Qx Y fun a w H_ ax_ hle hax_ hS ha hd hls=>?_;obtain⟨_,ha,A261,c261,rfl,hr261⟩:=hd.g ha 1 rfl;have hSf:=hS;have hSr:=Step.dropN _ _ hS;have hk263:=dU (s:=⟨#[102]⟩) hS.inv.nil hr261;refine id (Co func47 ha Y (hk263) ?_);rintro e w ⟨H262,A262,c262,rfl,hr262,hc262⟩;refine⟨_,rfl,fun a ha=>?_⟩;have hS:=hS.call hc262;exact As.qdone (s:=⟨H_,ax_⟩) hc262.le ha hS ⟨A262,c262,rfl,hr262⟩
 ·refine As.Qx Y fun a w H_ ax_ hle hax_ hS ha hd hls=>?_;have hSf:=hS;have hS:=Step.dropN _ _ hS;exact ak (vs:=lZ) T26 Y ha Y (hS.blkL 0 rfl) Y (af Y) Y fun a ha=>As.ql ha hSf
 ·refine As.Qx Y fun a w H_ ax_ hle hax_ hS ha hd hls=>?_;obtain⟨_,ha,A262,c262,rfl,hr262⟩:=hd.g ha 2 rfl;obtain⟨_,ha,rfl⟩:=hd.g ha 3 rfl;have hSf:=hS;have hSr:=Step.dropN _ _ hS;refine id (aE (vs:= [(0,(tv q25 A262 c262)),(1,vZ)]) (cells:= [(iV q25.kind),(iV q25.n),(.string q25.s),(.slice A262 q25.l.length c262),(iV 0),(iV 0),(.string (⟨#[]⟩)),(.slice none 0 0)]) T22.und T26 hS ha (ha.evp Y) Y Y Y Y fun b264 a w hS ha=>?_);obtain⟨H264,hS,hle264,hb264⟩:=hS.give;have hr262:=hr262.mono hle264;have hr264: RowT H264 (some ⟨b264,0,none⟩) 2 [q25,tZ]:=RowT.of_lit ([⟨q25,A262,c262⟩,⟨tZ,none,0⟩]: List TV) hb264 (AllR.cons hr262 (AllR.cons (RowT.nil _) (AllR.nil _))) (by simp) Y;exact As.qdone (s:=⟨H_,ax_⟩) hle264 ha hS ⟨_,_,rfl,hr264⟩
 ·refine As.Qx Y fun a w H_ ax_ hle hax_ hS ha hd hls=>?_;obtain⟨_,ha,A264,c264,rfl,hr264⟩:=hd.g ha 4 rfl;have hSf:=hS;have hSr:=Step.dropN _ _ hS;have hk266:=aP hS.inv.nil hr264;refine id (Co func46 ha Y (hk266) ?_);rintro e w ⟨H265,A265,c265,rfl,hr265,hc265⟩;refine⟨_,rfl,fun a ha=>?_⟩;have hS:=hS.call hc265;exact As.qdone (s:=⟨H_,ax_⟩) hc265.le ha hS ⟨A265,c265,rfl,hr265⟩
 ·refine As.Qx Y fun a w H_ ax_ hle hax_ hS ha hd hls=>?_;have hSf:=hS;have hS:=Step.dropN _ _ hS;exact ak (vs:=lZ) T26 Y ha Y (hS.blkL 0 rfl) Y (af Y) Y fun a ha=>As.ql ha hSf
 ·refine As.Qx Y fun a w H_ ax_ hle hax_ hS ha hd hls=>?_;have hSf:=hS;have hSr:=Step.dropN _ _ hS;have hk268:=c_a (s:=⟨#[97]⟩) hS.inv.nil;refine id (Co func23 ha Y (hk268) ?_);rintro e w ⟨H267,A267,c267,rfl,hr267,hc267⟩;refine⟨_,rfl,fun a ha=>?_⟩;have hS:=hS.call hc267;exact As.qdone (s:=⟨H_,ax_⟩) hc267.le ha hS ⟨A267,c267,rfl,hr267⟩
 ·refine As.Qx Y fun a w H_ ax_ hle hax_ hS ha hd hls=>?_;have hSf:=hS;have hSr:=Step.dropN _ _ hS;have hk270:=bV (n:=0) hS.inv.nil;refine id (Co func39 ha Y (hk270) ?_);rintro e w ⟨H269,A269,c269,rfl,hr269,hc269⟩;refine⟨_,rfl,fun a ha=>?_⟩;have hS:=hS.call hc269;exact As.qdone (s:=⟨H_,ax_⟩) hc269.le ha hS ⟨A269,c269,rfl,hr269⟩
 ·refine As.Qx1 6 rfl fun a w H_ ax_ hle hax_ hS ha hd hls=>?_;obtain⟨_,ha,A267,c267,rfl,hr267⟩:=hd.g ha 7 rfl;obtain⟨_,ha,A269,c269,rfl,hr269⟩:=hd.g ha 8 rfl;have hSf:=hS;have hSr:=Step.dropN _ _ hS;refine id (aE (vs:= [(0,vZ),(1,(tv q4 A267 c267)),(2,(tv q0 A269 c269))]) (cells:= [(iV 0),(iV 0),(.string (⟨#[]⟩)),(.slice none 0 0),(iV q4.kind),(iV q4.n),(.string q4.s),(.slice A267 q4.l.length c267),(iV q0.kind),(iV q0.n),(.string q0.s),(.slice A269 q0.l.length c269)]) T22.und T26 hS ha (ha.evp Y) Y Y Y Y fun b271 a w hS ha=>?_);obtain⟨H271,hS,hle271,hb271⟩:=hS.give;have hr267:=hr267.mono hle271;have hr269:=hr269.mono hle271;have hr271: RowT H271 (some ⟨b271,0,none⟩) 3 [tZ,q4,q0]:=RowT.of_lit ([⟨tZ,none,0⟩,⟨q4,A267,c267⟩,⟨q0,A269,c269⟩]: List TV) hb271 (AllR.cons (RowT.nil _) (AllR.cons hr267 (AllR.cons hr269 (AllR.nil _)))) (by simp) Y;exact As.qdone (s:=⟨H_,ax_⟩) hle271 ha hS ⟨_,_,rfl,hr271⟩
 ·refine As.Qx Y fun a w H_ ax_ hle hax_ hS ha hd hls=>?_;obtain⟨_,ha,A271,c271,rfl,hr271⟩:=hd.g ha 9 rfl;have hSf:=hS;have hSr:=Step.dropN _ _ hS;have hk273:=aP hS.inv.nil hr271;refine id (Co func46 ha Y (hk273) ?_);rintro e w ⟨H272,A272,c272,rfl,hr272,hc272⟩;refine⟨_,rfl,fun a ha=>?_⟩;have hS:=hS.call hc272;exact As.qdone (s:=⟨H_,ax_⟩) hc272.le ha hS ⟨A272,c272,rfl,hr272⟩
 ·refine As.Qx Y fun a w H_ ax_ hle hax_ hS ha hd hls=>?_;obtain⟨_,ha,A265,c265,rfl,hr265⟩:=hd.g ha 5 rfl;obtain⟨_,ha,A272,c272,rfl,hr272⟩:=hd.g ha 10 rfl;have hSf:=hS;have hSr:=Step.dropN _ _ hS;have hk275:=c_Merge hS.inv.nil hr265 hr272;rw [show (mergeU k27 k28).1.2=true from by kernel_rfl] at hk275;rw [show (mergeU k27 k28).2=0 from by kernel_rfl] at hk275;refine id (Co func19 ha Y (hk275) ?_);rintro e w ⟨H274,A274,c274,rfl,hr274,hc274⟩;refine⟨_,rfl,fun a ha=>?_⟩;have hS:=hS.call hc274;exact As.qdone (s:=⟨H_,ax_⟩) hc274.le ha hS ⟨A274,c274,rfl,hr274⟩
 ·refine As.Qx Y fun a w H_ ax_ hle hax_ hS ha hd hls=>?_;obtain⟨_,ha,A274,c274,rfl,hr274⟩:=hd.g ha 11 rfl;have hSf:=hS;refine id (ai ha Y Y fun a ha=>?_);exact As.qdone (s:=⟨H_,ax_⟩) (Le.refl _) ha hSf ⟨A274,c274,rfl,hr274⟩
 ·refine As.Qx Y fun a w H_ ax_ hle hax_ hS ha hd hls=>?_;obtain⟨_,ha,A274,c274,rfl,hr274⟩:=hd.g ha 12 rfl;have hSf:=hS;refine id (ap (v:=(.agg #[(.slice A274 k29.length c274)])) ha Y Y Y fun a ha=>?_);exact As.qdone (s:=⟨H_,ax_⟩) (Le.refl _) ha hSf ⟨A274,c274,rfl,hr274⟩
 ·refine As.Qx Y fun a w H_ ax_ hle hax_ hS ha hd hls=>?_;obtain⟨_,ha,A274,c274,rfl,hr274⟩:=hd.g ha 12 rfl;have hSf:=hS;exact ap (v:=(.bool true)) ha Y Y Y fun a ha=>As.ql ha hSf
 ·refine As.Qx Y fun a w H_ ax_ hle hax_ hS ha hd hls=>?_;obtain⟨_,ha,A274,c274,rfl,hr274⟩:=hd.g ha 12 rfl;have hSf:=hS;exact ap (v:=(iV 0)) ha Y Y Y fun a ha=>As.ql ha hSf
 ·refine As.Qx Y fun a w H_ ax_ hle hax_ hS ha hd hls=>?_;have hS: Step w0 H [] w H_ ((As.aents (As.il []) (As.sl [(16,17)]) [] ax_++As.aents (As.il []) (As.sl [(16,17)]) [17] ax_++ [(some b1,(.cells aZ 26 (0,0)))])):=As.opn (s:=⟨H_,ax_⟩) [] [16] [17] [] rfl (As.con0 hax_ Y) hS;refine aC (cs:= #[(.slice none 0 0)]) T24 hS ha Y Y fun ab276 a w hS ha=>?_;exact As.qown (i:=16) (dst:=some 16) (s:=⟨H_,ax_⟩) (E:= [(some ab276,(.cells #[(.slice none 0 0)] 24 (0,0)))]) [] [16] [17] rfl Y hax_ (Le.refl _) ha.dfr (As.has_at ha) hS As.con1 ⟨ab276,rfl,rfl⟩
 ·refine As.Qx Y fun a w H_ ax_ hle hax_ hS ha hd hls=>?_;obtain⟨_,ha,ab276,hx_ab276,rfl⟩:=hd.g ha 16 rfl;have hx_ab276: ax_ 16=some [(some ab276,(.cells #[(.slice none 0 0)] 24 (0,0)))]:=hx_ab276;obtain⟨_,ha,A274,c274,rfl,hr274⟩:=hd.g ha 13 rfl;have hS: Step w0 H [] w H_ ((some ab276,(.cells #[(.slice none 0 0)] 24 (0,0)))::(As.aents (As.il []) (As.sl [(16,17)]) [] ax_++As.aents (As.il []) (As.sl [(16,17)]) [] ax_++ [(some b1,(.cells aZ 26 (0,0)))])):=As.opn (s:=⟨H_,ax_⟩) [] [16,17] [] [(some ab276,(.cells #[(.slice none 0 0)] 24 (0,0)))] rfl (As.con2 Y Y Y hx_ab276 hax_) hS;refine id (aw (cs':= #[(.slice A274 k29.length c274)]) T24 hS (i:=0) Y ha Y Y Y Y Y Y fun a w hS ha=>?_);exact As.qown (i:=17) (dst:=none) (s:=⟨H_,ax_⟩) (E:= [(some ab276,(.cells #[(.slice A274 k29.length c274)] 24 (0,0)))]) [] [16,17] [] rfl Y hax_ (Le.refl _) ha.dfr (v:=undef) (fun _ h=>by cases h) hS (.inl (As.con2' Y Y)) ⟨ab276,A274,c274,hx_ab276,rfl,hr274⟩
 ·refine As.Qx1 14 rfl fun a w H_ ax_ hle hax_ hS ha hd hls=>?_;have hSf:=hS;exact aB ha Y Y fun a ha=>As.ql ha hSf
 obtain⟨H280,ax_⟩:=s_;have hle280: Le H258 H280:=hls.le;dsimp only at hdr_ hS;obtain⟨_,ha,rfl⟩:=As.Dd ha hdr_ 15 rfl;obtain⟨_,ha,ab276,hx_ab276,rfl⟩:=As.Dd ha hdr_ 16 rfl;have hx_ab276: ax_ 16=some [(some ab276,(.cells #[(.slice none 0 0)] 24 (0,0)))]:=hx_ab276;obtain⟨_,hv_,sb278,A274,c274,hq_sb278,hx_sb278,hr274⟩:=hdr_ 17 _ _ Y Y;have hx_sb278: ax_ 17=some [(some sb278,(.cells #[(.slice A274 k29.length c274)] 24 (0,0)))]:=hx_sb278;obtain rfl: ab276=sb278:=by have h_:=(hx_ab276).symm.trans hq_sb278;simpa using h_
 obtain⟨_,ha,rfl⟩:=As.Dd ha hdr_ 18 rfl;have hS: Step w0 H [] w H280 [(some ab276,(.cells #[(.slice A274 k29.length c274)] 24 (0,0))),(some b1,(.cells aZ 26 (0,0)))]:=by
  have h_:=hS;unfold As.aents at h_;simp only [List.flatMap_cons,List.flatMap_nil,As.conE,show (As.sl [(16,17)]) 16=some 17 from rfl,show (As.sl [(16,17)]) 17=none from rfl,hx_ab276,hx_sb278,Option.isSome_some,Option.getD_some,cond_true,cond_false,List.cons_append,List.nil_append,List.append_nil] at h_;exact h_
 refine any1 (i:=19) (by kernel_rfl) Y Y (aB ha Y Y fun a ha=>?_);refine any0 (by kernel_rfl) ?_;refine aa (wp_seq ?_);have hS_:=hS;refine a9 bF [FcT q4,FcT q4,fun H v=> ∃ A c,v=.slice A 2 c∧RowT H A c [q4,q4],fun H v=> ∃ A c,v=(.agg #[(.slice A k30.length c)])∧RowT H A c k30,FcV vZ,FcT q0,fun H v=> ∃ A c,v=.slice A 2 c∧RowT H A c [tZ,q0],fun H v=> ∃ A c,v=(.agg #[(.slice A k31.length c)])∧RowT H A c k31,FcV (.tuple #[(.bool true),(iV 0)]),FcV (.tuple #[(.bool true),(iV 0)]),FcV (.bool true),FcV (iV 0),FcV (.bool true),FcV (iV 0)] (N:=386) (E:= [(1,(pB b1)),(4,(iV 0)),(16,(pB ab276)),(17,(.bool true))]) mixed (by kernel_rfl) (by repeat' (first | exact Monos.nil | refine Monos.cons ?_ ?_ |(intro _ _ _ hl h;exact h) |(rintro _ _ _ hl ⟨A,c,h,hr⟩;exact⟨A,c,h,hr.mono hl⟩) |(rintro _ _ _ hl ⟨b,h,hb⟩;exact⟨b,h,hl _ _ hb⟩))) hS (ha.pk Y) (.c4 ?_ ?_ ?_ ?_ (.c4 ?_ ?_ ?_ ?_ (.c4 ?_ ?_ ?_ ?_ (.c2 ?_ ?_ (.nil))))) (fun a w H295 hle295 hS ha hdr_=>?_)
 ·refine Qy Y fun a w H_ hle hS ha hd=>?_;exact Qd func23 ha Y (c_a (s:=⟨#[97]⟩) hS.inv.nil) hS
 ·refine Qy Y fun a w H_ hle hS ha hd=>?_;exact Qd func23 ha Y (c_a (s:=⟨#[97]⟩) hS.inv.nil) hS
 ·refine Qy Y fun a w H_ hle hS ha hd=>?_;obtain⟨_,ha,A281,c281,rfl,hr281⟩:=hd.g ha 0 rfl;obtain⟨_,ha,A283,c283,rfl,hr283⟩:=hd.g ha 1 rfl;refine id (aE (vs:= [(0,(tv q4 A281 c281)),(1,(tv q4 A283 c283))]) (cells:= [(iV q4.kind),(iV q4.n),(.string q4.s),(.slice A281 q4.l.length c281),(iV q4.kind),(iV q4.n),(.string q4.s),(.slice A283 q4.l.length c283)]) T22.und T26 hS ha (ha.evp Y) Y Y Y Y fun b285 a w hS ha=>?_);obtain⟨H285,hS,hle285,hb285⟩:=hS.give;have hr281:=hr281.mono hle285;have hr283:=hr283.mono hle285;have hr285: RowT H285 (some ⟨b285,0,none⟩) 2 [q4,q4]:=RowT.of_lit ([⟨q4,A281,c281⟩,⟨q4,A283,c283⟩]: List TV) hb285 (AllR.cons hr281 (AllR.cons hr283 (AllR.nil _))) (by simp) Y;exact qdone hle285 ha hS ⟨_,_,rfl,hr285⟩
 ·refine Qy Y fun a w H_ hle hS ha hd=>?_;obtain⟨_,ha,A285,c285,rfl,hr285⟩:=hd.g ha 2 rfl;exact Qd func46 ha Y (aP hS.inv.nil hr285) hS
 ·refine Qy Y fun a w H_ hle hS ha hd=>?_;exact ak (vs:=lZ) T26 Y ha Y (hS.blkL 1 rfl) Y (af Y) Y fun a ha=>ql ha hS
 ·refine Qy Y fun a w H_ hle hS ha hd=>?_;exact Qd func39 ha Y (bV (n:=0) hS.inv.nil) hS
 ·refine Qy1 4 rfl fun a w H_ hle hS ha hd=>?_;obtain⟨_,ha,A288,c288,rfl,hr288⟩:=hd.g ha 5 rfl;refine id (aE (vs:= [(0,vZ),(1,(tv q0 A288 c288))]) (cells:= [(iV 0),(iV 0),(.string (⟨#[]⟩)),(.slice none 0 0),(iV q0.kind),(iV q0.n),(.string q0.s),(.slice A288 q0.l.length c288)]) T22.und T26 hS ha (ha.evp Y) Y Y Y Y fun b290 a w hS ha=>?_);obtain⟨H290,hS,hle290,hb290⟩:=hS.give;have hr288:=hr288.mono hle290;have hr290: RowT H290 (some ⟨b290,0,none⟩) 2 [tZ,q0]:=RowT.of_lit ([⟨tZ,none,0⟩,⟨q0,A288,c288⟩]: List TV) hb290 (AllR.cons (RowT.nil _) (AllR.cons hr288 (AllR.nil _))) (by simp) Y;exact qdone hle290 ha hS ⟨_,_,rfl,hr290⟩
 ·refine Qy Y fun a w H_ hle hS ha hd=>?_;obtain⟨_,ha,A290,c290,rfl,hr290⟩:=hd.g ha 6 rfl;exact Qd func46 ha Y (aP hS.inv.nil hr290) hS
 ·refine Qy Y fun a w H_ hle hS ha hd=>?_;obtain⟨_,ha,A286,c286,rfl,hr286⟩:=hd.g ha 3 rfl;obtain⟨_,ha,A291,c291,rfl,hr291⟩:=hd.g ha 7 rfl;have hk294:=c_Implies hS.inv.nil hr286 hr291;rw [show (impU k30 k31)=(true,0) from by kernel_rfl] at hk294;refine id (Co func49 ha Y (hk294) ?_);rintro e w ⟨H293,rfl,hc293⟩;refine⟨_,rfl,fun a ha=>?_⟩;have hS:=hS.call hc293;exact qdone hc293.le ha hS Y
 ·refine Qy1 8 rfl fun a w H_ hle hS ha hd=>?_;exact ai ha Y Y fun a ha=>ql ha hS
 ·refine Qy1 9 rfl fun a w H_ hle hS ha hd=>?_;exact ap (v:=(.bool true)) ha Y Y Y fun a ha=>ql ha hS
 ·refine Qy1 9 rfl fun a w H_ hle hS ha hd=>?_;exact ap (v:=(iV 0)) ha Y Y Y fun a ha=>ql ha hS
 ·refine Qy1 10 rfl fun a w H_ hle hS ha hd=>?_;exact aB ha Y Y fun a ha=>ql ha hS
 ·refine Qy1 11 rfl fun a w H_ hle hS ha hd=>?_;exact aB ha Y Y fun a ha=>ql ha hS
 have hr274:=hr274.mono hle295;obtain⟨_,ha,rfl⟩:=Dd ha hdr_ 12 rfl;obtain⟨_,ha,rfl⟩:=Dd ha hdr_ 13 rfl;refine aa (wp_seq (ab (lin Y (ak (vs:=lZ) T26 Y ha Y (hS.blkL 1 rfl) Y (af Y) Y fun a ha=>?_))));refine lin Y (aE (vs:= [(0,vZ)]) (cells:=lZ) T22.und T26 hS ha (ha.evp Y) Y Y Y Y fun b296 a w hS ha=>?_);obtain⟨H296,hS,hle296,hb296⟩:=hS.give;have hr274:=hr274.mono hle296;have hr296: RowT H296 (some ⟨b296,0,none⟩) 1 [tZ]:=RowT.of_lit ([⟨tZ,none,0⟩]: List TV) hb296 (AllR.cons (RowT.nil _) (AllR.nil _)) (by simp) Y;have hk298:=aP hS.inv.nil hr296;refine lin Y (Co func46 ha Y (hk298) ?_);rintro e w ⟨H297,A297,c297,rfl,hr297,hc297⟩;refine⟨_,rfl,fun a ha=>?_⟩;have hS:=hS.call hc297;have hr274:=hr274.mono hc297.le;have hk300:=c_Open hS.inv.nil hr297;rw [show stE k32=0 from by kernel_rfl] at hk300;refine lin Y (Co func31 ha Y (hk300) ?_);rintro e w ⟨H299,L299,p299,rfl,hp299, -,hc299⟩;obtain⟨pw,rfl,hz⟩:=hp299 Y;refine⟨_,rfl,fun a ha=>?_⟩;have hS:=(Step.frame (Lc:= []) (R:= [(some ab276,(.cells #[(.slice A274 k29.length c274)] 24 (0,0))),(some b1,(.cells aZ 26 (0,0)))]) hS hc299).perm List.perm_append_comm;have hr274:=hr274.mono hc299.le;refine Lm Y ha fun a ha=>?_;refine lin Y (ap (v:=(pB pw)) ha Y Y Y fun a ha=>?_);refine lin Y (ap (v:=(iV 0)) ha Y Y Y fun a ha=>?_);refine Ls Y ha fun a ha=>?_;refine Ls Y ha fun a ha=>?_;refine wpList_nil (aa (wp_seq (wp_seq ?_)));have hS_:=hS;refine a9 bF [FcV (iV 0),FcV (.bool false),FcV (.bool false),FcV (iV 0),FcV (.bool false),FcV (.bool false),FcV (.bool false),FcV (iV 0),FcV (.bool false),FcV (.bool false),FcV (.bool false),FcV (.bool true),FcV (.bool false),FcV (.bool false),FcV (.bool false),FcV (.bool true),FcV (.bool false),FcV (.bool false),FcV (.bool false),FcV (pB pw),FcV (.bool false),FcV (.bool false),FcV (.bool false),FcV (.agg #[(.slice A274 k29.length c274)]),FcT q1,fun H v=> ∃ A c,v=.slice A 1 c∧RowT H A c [q1],FcT q25,FcT q4,FcT q1,fun H v=> ∃ A c,v=.slice A 1 c∧RowT H A c [q1],FcT q25,fun H v=> ∃ A c,v=.slice A 3 c∧RowT H A c [q25,q4,q25],fun H v=> ∃ A c,v=(.agg #[(.slice A k33.length c)])∧RowT H A c k33,FcV (.bool true),FcV (.bool false),FcV (.bool false)] (N:=386) (E:= [(1,(pB b1)),(4,(iV 0)),(6,(iV 0)),(8,(iV 0)),(16,(pB ab276)),(17,(.bool true)),(18,(.bool true)),(19,(pB pw))]) mixed (by kernel_rfl) (by repeat' (first | exact Monos.nil | refine Monos.cons ?_ ?_ |(intro _ _ _ hl h;exact h) |(rintro _ _ _ hl ⟨A,c,h,hr⟩;exact⟨A,c,h,hr.mono hl⟩) |(rintro _ _ _ hl ⟨b,h,hb⟩;exact⟨b,h,hl _ _ hb⟩))) hS (ha.pk Y) (.c4 ?_ ?_ ?_ ?_ (.c4 ?_ ?_ ?_ ?_ (.c4 ?_ ?_ ?_ ?_ (.c4 ?_ ?_ ?_ ?_ (.c4 ?_ ?_ ?_ ?_ (.c4 ?_ ?_ ?_ ?_ (.c4 ?_ ?_ ?_ ?_ (.c4 ?_ ?_ ?_ ?_ (.c4 ?_ ?_ ?_ ?_ (.nil)))))))))) (fun a w H317 hle317 hS ha hdr_=>?_)
 ·refine Qy Y fun a w H_ hle hS ha hd=>?_;exact ai ha Y Y fun a ha=>ql ha hS
 ·refine Qy1 0 rfl fun a w H_ hle hS ha hd=>?_;exact a8 (i:=0) (j:=0) ha Y Y Y fun a ha=>ql ha hS
 ·refine Qy1 1 rfl fun a w H_ hle hS ha hd=>?_;exact ai ha Y Y fun a ha=>ql ha hS
 ·refine Qg 2 rfl fun a w H_ hle hS ha hd=>?_;exact ai ha Y Y fun a ha=>ql ha hS
 ·refine Qg 2 rfl fun a w H_ hle hS ha hd=>?_;obtain⟨_,ha,rfl⟩:=hd.g ha 3 rfl;exact a8 (i:=0) (j:=0) ha Y Y Y fun a ha=>ql ha hS
 ·refine Qy1 2 rfl fun a w H_ hle hS ha hd=>?_;obtain⟨_,ha,rfl⟩:=hd.g ha 4 rfl;exact ah ha Y Y Y fun a ha=>ql ha hS
 ·refine Qy1 5 rfl fun a w H_ hle hS ha hd=>?_;exact ai ha Y Y fun a ha=>ql ha hS
 ·refine Qg 6 rfl fun a w H_ hle hS ha hd=>?_;exact ai ha Y Y fun a ha=>ql ha hS
 ·refine Qg 6 rfl fun a w H_ hle hS ha hd=>?_;obtain⟨_,ha,rfl⟩:=hd.g ha 7 rfl;exact a8 (i:=0) (j:=0) ha Y Y Y fun a ha=>ql ha hS
 ·refine Qy1 6 rfl fun a w H_ hle hS ha hd=>?_;obtain⟨_,ha,rfl⟩:=hd.g ha 8 rfl;exact ah ha Y Y Y fun a ha=>ql ha hS
 ·refine Qy1 9 rfl fun a w H_ hle hS ha hd=>?_;exact ai ha Y Y fun a ha=>ql ha hS
 ·refine Qg 10 rfl fun a w H_ hle hS ha hd=>?_;exact ai ha Y Y fun a ha=>ql ha hS
 ·refine Qg 10 rfl fun a w H_ hle hS ha hd=>?_;obtain⟨_,ha,rfl⟩:=hd.g ha 11 rfl;exact aQ ha Y Y fun a ha=>ql ha hS
 ·refine Qy1 10 rfl fun a w H_ hle hS ha hd=>?_;obtain⟨_,ha,rfl⟩:=hd.g ha 12 rfl;exact ah ha Y Y Y fun a ha=>ql ha hS
 ·refine Qy1 13 rfl fun a w H_ hle hS ha hd=>?_;exact ai ha Y Y fun a ha=>ql ha hS
 ·refine Qg 14 rfl fun a w H_ hle hS ha hd=>?_;exact ai ha Y Y fun a ha=>ql ha hS
 ·refine Qg 14 rfl fun a w H_ hle hS ha hd=>?_;obtain⟨_,ha,rfl⟩:=hd.g ha 15 rfl;exact aQ ha Y Y fun a ha=>ql ha hS
 ·refine Qy1 14 rfl fun a w H_ hle hS ha hd=>?_;obtain⟨_,ha,rfl⟩:=hd.g ha 16 rfl;exact ah ha Y Y Y fun a ha=>ql ha hS
 ·refine Qy1 17 rfl fun a w H_ hle hS ha hd=>?_;exact ai ha Y Y fun a ha=>ql ha hS
 ·refine Qg 18 rfl fun a w H_ hle hS ha hd=>?_;exact ai ha Y Y fun a ha=>ql ha hS
 ·refine Qg 18 rfl fun a w H_ hle hS ha hd=>?_;obtain⟨_,ha,rfl⟩:=hd.g ha 19 rfl;exact bA T56.und T105 ha Y Y Y fun a ha=>ql ha hS
 ·refine Qy1 18 rfl fun a w H_ hle hS ha hd=>?_;obtain⟨_,ha,rfl⟩:=hd.g ha 20 rfl;exact ah ha Y Y Y fun a ha=>ql ha hS
 ·refine Qy1 21 rfl fun a w H_ hle hS ha hd=>?_;exact ai ha Y Y fun a ha=>ql ha hS
 ·refine Qg 22 rfl fun a w H_ hle hS ha hd=>?_;exact ak (vs:= [(.slice A274 k29.length c274)]) T24 Y ha Y (hS.blkL 0 rfl) Y (af Y) Y fun a ha=>ql ha hS
 ·refine Qg 22 rfl fun a w H_ hle hS ha hd=>?_;exact Qd func39 ha Y (bV (n:=1) hS.inv.nil) hS
 ·refine Qg 22 rfl fun a w H_ hle hS ha hd=>?_;obtain⟨_,ha,A301,c301,rfl,hr301⟩:=hd.g ha 24 rfl;refine id (aE (vs:= [(0,(tv q1 A301 c301))]) (cells:=(tL q1 A301 c301)) T22.und T26 hS ha (ha.evp Y) Y Y Y Y fun b303 a w hS ha=>?_);obtain⟨H303,hS,hle303,hb303⟩:=hS.give;have hr301:=hr301.mono hle303;have hr303: RowT H303 (some ⟨b303,0,none⟩) 1 [q1]:=RowT.of_lit ([⟨q1,A301,c301⟩]: List TV) hb303 (AllR.cons hr301 (AllR.nil _)) (by simp) Y;exact qdone hle303 ha hS ⟨_,_,rfl,hr303⟩
 ·refine Qg 22 rfl fun a w H_ hle hS ha hd=>?_;obtain⟨_,ha,A303,c303,rfl,hr303⟩:=hd.g ha 25 rfl;exact Qd func47 ha Y (dU (s:=⟨#[102]⟩) hS.inv.nil hr303) hS
 ·refine Qg 22 rfl fun a w H_ hle hS ha hd=>?_;exact Qd func23 ha Y (c_a (s:=⟨#[97]⟩) hS.inv.nil) hS
 ·refine Qg 22 rfl fun a w H_ hle hS ha hd=>?_;exact Qd func39 ha Y (bV (n:=1) hS.inv.nil) hS
 ·refine Qg 22 rfl fun a w H_ hle hS ha hd=>?_;obtain⟨_,ha,A308,c308,rfl,hr308⟩:=hd.g ha 28 rfl;refine id (aE (vs:= [(0,(tv q1 A308 c308))]) (cells:=(tL q1 A308 c308)) T22.und T26 hS ha (ha.evp Y) Y Y Y Y fun b310 a w hS ha=>?_);obtain⟨H310,hS,hle310,hb310⟩:=hS.give;have hr308:=hr308.mono hle310;have hr310: RowT H310 (some ⟨b310,0,none⟩) 1 [q1]:=RowT.of_lit ([⟨q1,A308,c308⟩]: List TV) hb310 (AllR.cons hr308 (AllR.nil _)) (by simp) Y;exact qdone hle310 ha hS ⟨_,_,rfl,hr310⟩
 ·refine Qg 22 rfl fun a w H_ hle hS ha hd=>?_;obtain⟨_,ha,A310,c310,rfl,hr310⟩:=hd.g ha 29 rfl;exact Qd func47 ha Y (dU (s:=⟨#[102]⟩) hS.inv.nil hr310) hS
 ·refine Qg 22 rfl fun a w H_ hle hS ha hd=>?_;obtain⟨_,ha,A304,c304,rfl,hr304⟩:=hd.g ha 26 rfl;obtain⟨_,ha,A306,c306,rfl,hr306⟩:=hd.g ha 27 rfl;obtain⟨_,ha,A311,c311,rfl,hr311⟩:=hd.g ha 30 rfl;refine id (aE (vs:= [(0,(tv q25 A304 c304)),(1,(tv q4 A306 c306)),(2,(tv q25 A311 c311))]) (cells:= [(iV q25.kind),(iV q25.n),(.string q25.s),(.slice A304 q25.l.length c304),(iV q4.kind),(iV q4.n),(.string q4.s),(.slice A306 q4.l.length c306),(iV q25.kind),(iV q25.n),(.string q25.s),(.slice A311 q25.l.length c311)]) T22.und T26 hS ha (ha.evp Y) Y Y Y Y fun b313 a w hS ha=>?_);obtain⟨H313,hS,hle313,hb313⟩:=hS.give;have hr304:=hr304.mono hle313;have hr306:=hr306.mono hle313;have hr311:=hr311.mono hle313;have hr313: RowT H313 (some ⟨b313,0,none⟩) 3 [q25,q4,q25]:=RowT.of_lit ([⟨q25,A304,c304⟩,⟨q4,A306,c306⟩,⟨q25,A311,c311⟩]: List TV) hb313 (AllR.cons hr304 (AllR.cons hr306 (AllR.cons hr311 (AllR.nil _)))) (by simp) Y;exact qdone hle313 ha hS ⟨_,_,rfl,hr313⟩
 ·refine Qg 22 rfl fun a w H_ hle hS ha hd=>?_;obtain⟨_,ha,A313,c313,rfl,hr313⟩:=hd.g ha 31 rfl;exact Qd func46 ha Y (aP hS.inv.nil hr313) hS
 ·refine Qg 22 rfl fun a w H_ hle hS ha hd=>?_;obtain⟨_,ha,rfl⟩:=hd.g ha 23 rfl;obtain⟨_,ha,A314,c314,rfl,hr314⟩:=hd.g ha 32 rfl;have hr274:=hr274.mono hle;have hk316:=aH hS.inv.nil hr274 hr314;rw [show eqL k29 k33=true from by kernel_rfl] at hk316;exact Cs func28 ha Y (hk316) hS fun a w ha hS=>ql ha hS
 ·refine Qg 22 rfl fun a w H_ hle hS ha hd=>?_;obtain⟨_,ha,rfl⟩:=hd.g ha 33 rfl;exact aQ ha Y Y fun a ha=>ql ha hS
 ·refine Qy1 22 rfl fun a w H_ hle hS ha hd=>?_;obtain⟨_,ha,rfl⟩:=hd.g ha 34 rfl;exact ah ha Y Y Y fun a ha=>ql ha hS
 have hz:=ZS.mono hz (hle317);obtain⟨_,ha,rfl⟩:=Dd ha hdr_ 35 rfl;refine aa (am ha Y (wp_skip (aa (wp_seq (ab (Lm Y ha fun a ha=>?_))))));have hk319:=c_Var (Inv.tail (Es:= [(some ab276,(.cells #[(.slice A274 k29.length c274)] 24 (0,0))),(some b1,(.cells aZ 26 (0,0)))]) hS.inv) hz (Nat.le_of_ble_eq_true (by kernel_rfl));rw [show (sVar k32 ([])).2.1=1 from by kernel_rfl] at hk319;rw [show (sVar k32 ([])).2.2=0 from by kernel_rfl] at hk319;refine lin Y (Co func34 ha Y (hk319) ?_);rintro e w ⟨H318,L318,rfl,hz318,hc318⟩;refine⟨_,rfl,fun a ha=>?_⟩;have hS:=Step.call_tail (Es:= [(some ab276,(.cells #[(.slice A274 k29.length c274)] 24 (0,0))),(some b1,(.cells aZ 26 (0,0)))]) hS hc318;have hz:=hz318;refine Lm Y ha fun a ha=>?_;refine lin Y (ap (v:=(iV 1)) ha Y Y Y fun a ha=>?_);refine lin Y (ap (v:=(iV 0)) ha Y Y Y fun a ha=>?_);refine Ls Y ha fun a ha=>?_;refine Ls Y ha fun a ha=>?_;refine wpList_nil (aa (wp_seq (ab (Lm Y ha fun a ha=>?_))));have hk321:=bV (n:=0) hS.inv.nil;refine lin Y (Co func39 ha Y (hk321) ?_);rintro e w ⟨H320,A320,c320,rfl,hr320,hc320⟩;refine⟨_,rfl,fun a ha=>?_⟩;have hS:=hS.call hc320;have hz:=ZS.mono hz (hc320.le);have hk323:=bV (n:=1) hS.inv.nil;refine lin Y (Co func39 ha Y (hk323) ?_);rintro e w ⟨H322,A322,c322,rfl,hr322,hc322⟩;refine⟨_,rfl,fun a ha=>?_⟩;have hS:=hS.call hc322;have hr320:=hr320.mono hc322.le;have hz:=ZS.mono hz (hc322.le);have hk325:=c_SUnify (Inv.tail (Es:= [(some ab276,(.cells #[(.slice A274 k29.length c274)] 24 (0,0))),(some b1,(.cells aZ 26 (0,0)))]) hS.inv) hz (Gst.ofB (by kernel_rfl) (by kernel_rfl)) (GS.of (by kernel_rfl) (by kernel_rfl)) hr320 hr322;rw [show (sUni k34 k35 q0 q1).2.1=true from by kernel_rfl] at hk325;rw [show (sUni k34 k35 q0 q1).2.2=0 from by kernel_rfl] at hk325;refine lin Y (Co func35 ha Y (hk325) ?_);rintro e w ⟨H324,L324,rfl,hz324,hc324⟩;refine⟨_,rfl,fun a ha=>?_⟩;have hS:=Step.call_tail (Es:= [(some ab276,(.cells #[(.slice A274 k29.length c274)] 24 (0,0))),(some b1,(.cells aZ 26 (0,0)))]) hS hc324;have hz:=hz324;refine Lm Y ha fun a ha=>?_;refine lin Y (ap (v:=(.bool true)) ha Y Y Y fun a ha=>?_);refine lin Y (ap (v:=(iV 0)) ha Y Y Y fun a ha=>?_);refine Ls Y ha fun a ha=>?_;refine Ls Y ha fun a ha=>?_;refine wpList_nil (aa (wp_seq ?_));have hS:=hS.drop;have hS_:=hS;refine c_draw_head (N:=386) (E:= [(1,(pB b1)),(4,(iV 0)),(6,(iV 0)),(19,(pB pw)),(20,(iV 1)),(21,(.bool true))]) ba 20 [FcV (iV 0),FcV (.bool true),FcV (.bool true),FcV (iV 0),FcV (.bool true),FcV (.bool true),FcV (.bool true),FcV (iV 1),FcV (.bool true),FcV (.bool true),FcV (.bool true),FcV (.bool true),FcV (.bool true),FcV (.bool true),FcV (pB pw),FcV (iV 2),FcV (.bool true),FcV (.bool true),FcV (.bool true),FcV (pB pw)] mixed Y Y Y (by repeat' (first | exact Monos.nil | refine Monos.cons ?_ ?_ |(intro _ _ _ hl h;exact h) |(rintro _ _ _ hl ⟨A,c,h,hr⟩;exact⟨A,c,h,hr.mono hl⟩) |(rintro _ _ _ hl ⟨b,h,hb⟩;exact⟨b,h,hl _ _ hb⟩))) hS (ha.pk Y) (Quiets.c4 ?_ ?_ ?_ ?_ (Quiets.c4 ?_ ?_ ?_ ?_ (Quiets.c4 ?_ ?_ ?_ ?_ (Quiets.c4 ?_ ?_ ?_ ?_ (Quiets.c4 ?_ ?_ ?_ ?_ (Quiets.nil)))))) (fun f_ a w H328 hle328 hS ha hdr_=>?_)
 ·refine Qz Y fun a w hS ha hd=>?_;exact ai ha Y Y fun a ha=>qe ha hS
 ·refine Qz1 0 rfl fun a w hS ha hd=>?_;exact aU (i:=0) (j:=0) ha Y Y Y fun a ha=>qe ha hS
 ·refine Qz1 1 rfl fun a w hS ha hd=>?_;exact ai ha Y Y fun a ha=>qe ha hS
 ·intro a w H_ hle hS ha hd;subst hle;obtain⟨_,ha,rfl⟩:=hd.g ha 2 rfl;rw [if_pos (ag Y ha Y Y Y)];exact ai ha Y Y fun a ha=>qe ha hS
 ·intro a w H_ hle hS ha hd;subst hle;obtain⟨_,ha,rfl⟩:=hd.g ha 3 rfl;obtain⟨_,ha,rfl⟩:=hd.g ha 2 rfl;rw [if_pos (ag Y ha Y Y Y)];exact aU (i:=0) (j:=0) ha Y Y Y fun a ha=>qe ha hS
 ·refine Qz1 2 rfl fun a w hS ha hd=>?_;obtain⟨_,ha,rfl⟩:=hd.g ha 4 rfl;exact an ha Y Y Y fun a ha=>qe ha hS
 ·refine Qz1 5 rfl fun a w hS ha hd=>?_;exact ai ha Y Y fun a ha=>qe ha hS
 ·intro a w H_ hle hS ha hd;subst hle;obtain⟨_,ha,rfl⟩:=hd.g ha 6 rfl;rw [if_pos (ag Y ha Y Y Y)];exact ai ha Y Y fun a ha=>qe ha hS
 ·intro a w H_ hle hS ha hd;subst hle;obtain⟨_,ha,rfl⟩:=hd.g ha 7 rfl;obtain⟨_,ha,rfl⟩:=hd.g ha 6 rfl;rw [if_pos (ag Y ha Y Y Y)];exact aU (i:=1) (j:=1) ha Y Y Y fun a ha=>qe ha hS
 ·refine Qz1 6 rfl fun a w hS ha hd=>?_;obtain⟨_,ha,rfl⟩:=hd.g ha 8 rfl;exact an ha Y Y Y fun a ha=>qe ha hS
 ·refine Qz1 9 rfl fun a w hS ha hd=>?_;exact ai ha Y Y fun a ha=>qe ha hS
 ·intro a w H_ hle hS ha hd;subst hle;obtain⟨_,ha,rfl⟩:=hd.g ha 10 rfl;rw [if_pos (ag Y ha Y Y Y)];exact ai ha Y Y fun a ha=>qe ha hS
 ·refine Qz1 10 rfl fun a w hS ha hd=>?_;obtain⟨_,ha,rfl⟩:=hd.g ha 11 rfl;exact an ha Y Y Y fun a ha=>qe ha hS
 ·refine Qz1 12 rfl fun a w hS ha hd=>?_;exact ai ha Y Y fun a ha=>qe ha hS
 ·intro a w H_ hle hS ha hd;subst hle;obtain⟨_,ha,rfl⟩:=hd.g ha 13 rfl;rw [if_pos (ag Y ha Y Y Y)];exact ai ha Y Y fun a ha=>qe ha hS
 ·intro a w H_ hle hS ha hd;subst hle;obtain⟨_,ha,rfl⟩:=hd.g ha 14 rfl;obtain⟨_,ha,rfl⟩:=hd.g ha 13 rfl;rw [if_pos (ag Y ha Y Y Y)];have hk327:=dv (Inv.tail (Es:= [(some b1,(.cells aZ 26 (0,0)))]) hS.inv) hz;rw [show ((List.length k37: Nat): Int)=2 from by kernel_rfl] at hk327;refine id (Co func33 ha Y (hk327) ?_);rintro e w ⟨rfl,hc326⟩;refine⟨_,rfl,fun a ha=>?_⟩;have hS:=Step.call_tail (Es:= [(some b1,(.cells aZ 26 (0,0)))]) hS hc326;exact qe ha hS
 ·intro a w H_ hle hS ha hd;subst hle;obtain⟨_,ha,rfl⟩:=hd.g ha 15 rfl;obtain⟨_,ha,rfl⟩:=hd.g ha 13 rfl;rw [if_pos (ag Y ha Y Y Y)];exact aU (i:=2) (j:=2) ha Y Y Y fun a ha=>qe ha hS
 ·refine Qz1 13 rfl fun a w hS ha hd=>?_;obtain⟨_,ha,rfl⟩:=hd.g ha 16 rfl;exact an ha Y Y Y fun a ha=>qe ha hS
 ·refine Qz1 17 rfl fun a w hS ha hd=>?_;exact ai ha Y Y fun a ha=>qe ha hS
 ·intro a w H_ hle hS ha hd;subst hle;obtain⟨_,ha,rfl⟩:=hd.g ha 18 rfl;rw [if_pos (ag Y ha Y Y Y)];exact ai ha Y Y fun a ha=>qe ha hS
 subst hle328;obtain⟨_,ha,rfl⟩:=Dd ha hdr_ 18 rfl;obtain⟨_,ha,rfl⟩:=Dd ha hdr_ 19 rfl;have hk330:=c_Back (mark:=1) (Inv.tail (Es:= [(some b1,(.cells aZ 26 (0,0)))]) hS.inv) hz (WfT.of (by kernel_rfl));rw [show (sBack k36 k37 1).2=0 from by kernel_rfl] at hk330;refine anyw1 (i:=20) (by kernel_rfl) Y (ag Y ha Y Y Y) (Co func36 ha Y (hk330) ?_);rintro e w ⟨H329,L329,rfl,hz329,hc329⟩;refine⟨_,rfl,fun a ha=>?_⟩;have hS:=Step.call_tail (Es:= [(some b1,(.cells aZ 26 (0,0)))]) hS hc329;have hz:=hz329;refine anyw1 (i:=21) (by kernel_rfl) Y (ag Y ha Y Y Y) (aU (i:=0) (j:=0) ha Y Y Y fun a ha=>?_);refine anyw1 (i:=22) (by kernel_rfl) Y (aA Y) (an ha Y Y Y fun a ha=>?_);refine anyw1 (i:=23) (by kernel_rfl) Y (aA Y) (ai ha Y Y fun a ha=>?_);refine anyw3 (i:=24) (i':=26) (i'':=27) (by kernel_rfl) Y (ag Y ha Y Y Y) Y (ag Y ha Y Y Y) Y (ag Y ha Y Y Y) ?_ ?_ ?_
 ·refine id (ai ha Y Y fun a ha=>?_);refine anyw3 (i:=25) (i':=26) (i'':=27) (by kernel_rfl) Y (ag Y ha Y Y Y) Y (ag Y ha Y Y Y) Y (ag Y ha Y Y Y) ?_ ?_ ?_
  ·have hk332:=aX (Inv.tail (Es:= [(some b1,(.cells aZ 26 (0,0)))]) hS.inv) hz;refine id (Co func32 ha Y (hk332) ?_);rintro e w ⟨H331,A331,c331,rfl,hr331,hz331,hc331⟩;refine⟨_,rfl,fun a ha=>?_⟩;have hS:=Step.call_tail (Es:= [(some b1,(.cells aZ 26 (0,0)))]) hS hc331;refine anyw2 (i:=26) (i':=27) (by kernel_rfl) Y (ag Y ha Y Y Y) Y (ag Y ha Y Y Y) ?_ ?_
   ·refine id (ak (vs:=lZ) T26 Y ha Y (hS.blkL 0 rfl) Y (af Y) Y fun a ha=>?_);refine anyw1 (i:=27) (by kernel_rfl) Y (ag Y ha Y Y Y) (ak (vs:=lZ) T26 Y ha Y (hS.blkL 0 rfl) Y (af Y) Y fun a ha=>?_);refine anyw1 (i:=28) (by kernel_rfl) Y (ag Y ha Y Y Y) (aE (vs:= [(0,vZ),(1,vZ)]) (cells:= [(iV 0),(iV 0),(.string (⟨#[]⟩)),(.slice none 0 0),(iV 0),(iV 0),(.string (⟨#[]⟩)),(.slice none 0 0)]) T22.und T26 hS ha (ha.evp Y) Y Y Y Y fun b333 a w hS ha=>?_);obtain⟨H333,hS,hle333,hb333⟩:=hS.give;have hr331:=hr331.mono hle333;have hr333: RowT H333 (some ⟨b333,0,none⟩) 2 [tZ,tZ]:=RowT.of_lit ([⟨tZ,none,0⟩,⟨tZ,none,0⟩]: List TV) hb333 (AllR.cons (RowT.nil _) (AllR.cons (RowT.nil _) (AllR.nil _))) (by simp) Y;have hk335:=aP hS.inv.nil hr333;refine anyw1 (i:=29) (by kernel_rfl) Y (ag Y ha Y Y Y) (Co func46 ha Y (hk335) ?_);rintro e w ⟨H334,A334,c334,rfl,hr334,hc334⟩;refine⟨_,rfl,fun a ha=>?_⟩;have hS:=hS.call hc334;have hr331:=hr331.mono hc334.le;have hk336:=aH hS.inv.nil hr331 hr334;rw [show eqL k38 k40=true from by kernel_rfl] at hk336;refine anyw1 (i:=30) (by kernel_rfl) Y (ag Y ha Y Y Y) (Co func28 ha Y (hk336) ?_);rintro e w ⟨rfl,hc⟩;refine⟨_,rfl,fun a ha=>?_⟩;have hS:=hS.call hc;refine anyw1 (i:=31) (by kernel_rfl) Y (aA Y) (an ha Y Y Y fun a ha=>?_);refine anyw1 (i:=32) (by kernel_rfl) Y (aA Y) (aB ha Y Y fun a ha=>?_);refine any0 (by kernel_rfl) ?_;refine aa (wp_ret (ret1 Y ha Y ?_));exact⟨_,rfl,hS.drop_all⟩
   ·refine id (ak (vs:=lZ) T26 Y ha Y (hS.blkL 0 rfl) Y (af Y) Y fun a ha=>?_);refine anyw1 (i:=26) (by kernel_rfl) Y (ag Y ha Y Y Y) (ak (vs:=lZ) T26 Y ha Y (hS.blkL 0 rfl) Y (af Y) Y fun a ha=>?_);refine anyw1 (i:=28) (by kernel_rfl) Y (ag Y ha Y Y Y) (aE (vs:= [(0,vZ),(1,vZ)]) (cells:= [(iV 0),(iV 0),(.string (⟨#[]⟩)),(.slice none 0 0),(iV 0),(iV 0),(.string (⟨#[]⟩)),(.slice none 0 0)]) T22.und T26 hS ha (ha.evp Y) Y Y Y Y fun b337 a w hS ha=>?_);obtain⟨H337,hS,hle337,hb337⟩:=hS.give;have hr331:=hr331.mono hle337;have hr337: RowT H337 (some ⟨b337,0,none⟩) 2 [tZ,tZ]:=RowT.of_lit ([⟨tZ,none,0⟩,⟨tZ,none,0⟩]: List TV) hb337 (AllR.cons (RowT.nil _) (AllR.cons (RowT.nil _) (AllR.nil _))) (by simp) Y;have hk339:=aP hS.inv.nil hr337;refine anyw1 (i:=29) (by kernel_rfl) Y (ag Y ha Y Y Y) (Co func46 ha Y (hk339) ?_);rintro e w ⟨H338,A338,c338,rfl,hr338,hc338⟩;refine⟨_,rfl,fun a ha=>?_⟩;have hS:=hS.call hc338;have hr331:=hr331.mono hc338.le;have hk340:=aH hS.inv.nil hr331 hr338;rw [show eqL k38 k40=true from by kernel_rfl] at hk340;refine anyw1 (i:=30) (by kernel_rfl) Y (ag Y ha Y Y Y) (Co func28 ha Y (hk340) ?_);rintro e w ⟨rfl,hc⟩;refine⟨_,rfl,fun a ha=>?_⟩;have hS:=hS.call hc;refine anyw1 (i:=31) (by kernel_rfl) Y (aA Y) (an ha Y Y Y fun a ha=>?_);refine anyw1 (i:=32) (by kernel_rfl) Y (aA Y) (aB ha Y Y fun a ha=>?_);refine any0 (by kernel_rfl) ?_;refine aa (wp_ret (ret1 Y ha Y ?_));exact⟨_,rfl,hS.drop_all⟩
  ·refine id (ak (vs:=lZ) T26 Y ha Y (hS.blkL 0 rfl) Y (af Y) Y fun a ha=>?_);refine anyw2 (i:=25) (i':=27) (by kernel_rfl) Y (ag Y ha Y Y Y) Y (ag Y ha Y Y Y) ?_ ?_
   ·have hk342:=aX (Inv.tail (Es:= [(some b1,(.cells aZ 26 (0,0)))]) hS.inv) hz;refine id (Co func32 ha Y (hk342) ?_);rintro e w ⟨H341,A341,c341,rfl,hr341,hz341,hc341⟩;refine⟨_,rfl,fun a ha=>?_⟩;have hS:=Step.call_tail (Es:= [(some b1,(.cells aZ 26 (0,0)))]) hS hc341;refine anyw1 (i:=27) (by kernel_rfl) Y (ag Y ha Y Y Y) (ak (vs:=lZ) T26 Y ha Y (hS.blkL 0 rfl) Y (af Y) Y fun a ha=>?_);refine anyw1 (i:=28) (by kernel_rfl) Y (ag Y ha Y Y Y) (aE (vs:= [(0,vZ),(1,vZ)]) (cells:= [(iV 0),(iV 0),(.string (⟨#[]⟩)),(.slice none 0 0),(iV 0),(iV 0),(.string (⟨#[]⟩)),(.slice none 0 0)]) T22.und T26 hS ha (ha.evp Y) Y Y Y Y fun b343 a w hS ha=>?_);obtain⟨H343,hS,hle343,hb343⟩:=hS.give;have hr341:=hr341.mono hle343;have hr343: RowT H343 (some ⟨b343,0,none⟩) 2 [tZ,tZ]:=RowT.of_lit ([⟨tZ,none,0⟩,⟨tZ,none,0⟩]: List TV) hb343 (AllR.cons (RowT.nil _) (AllR.cons (RowT.nil _) (AllR.nil _))) (by simp) Y;have hk345:=aP hS.inv.nil hr343;refine anyw1 (i:=29) (by kernel_rfl) Y (ag Y ha Y Y Y) (Co func46 ha Y (hk345) ?_);rintro e w ⟨H344,A344,c344,rfl,hr344,hc344⟩;refine⟨_,rfl,fun a ha=>?_⟩;have hS:=hS.call hc344;have hr341:=hr341.mono hc344.le;have hk346:=aH hS.inv.nil hr341 hr344;rw [show eqL k38 k40=true from by kernel_rfl] at hk346;refine anyw1 (i:=30) (by kernel_rfl) Y (ag Y ha Y Y Y) (Co func28 ha Y (hk346) ?_);rintro e w ⟨rfl,hc⟩;refine⟨_,rfl,fun a ha=>?_⟩;have hS:=hS.call hc;refine anyw1 (i:=31) (by kernel_rfl) Y (aA Y) (an ha Y Y Y fun a ha=>?_);refine anyw1 (i:=32) (by kernel_rfl) Y (aA Y) (aB ha Y Y fun a ha=>?_);refine any0 (by kernel_rfl) ?_;refine aa (wp_ret (ret1 Y ha Y ?_));exact⟨_,rfl,hS.drop_all⟩
   ·refine id (ak (vs:=lZ) T26 Y ha Y (hS.blkL 0 rfl) Y (af Y) Y fun a ha=>?_);refine anyw2 (i:=25) (i':=28) (by kernel_rfl) Y (ag Y ha Y Y Y) Y (ag Y ha Y Y Y) ?_ ?_
    ·have hk348:=aX (Inv.tail (Es:= [(some b1,(.cells aZ 26 (0,0)))]) hS.inv) hz;refine id (Co func32 ha Y (hk348) ?_);rintro e w ⟨H347,A347,c347,rfl,hr347,hz347,hc347⟩;refine⟨_,rfl,fun a ha=>?_⟩;have hS:=Step.call_tail (Es:= [(some b1,(.cells aZ 26 (0,0)))]) hS hc347;refine anyw1 (i:=28) (by kernel_rfl) Y (ag Y ha Y Y Y) (aE (vs:= [(0,vZ),(1,vZ)]) (cells:= [(iV 0),(iV 0),(.string (⟨#[]⟩)),(.slice none 0 0),(iV 0),(iV 0),(.string (⟨#[]⟩)),(.slice none 0 0)]) T22.und T26 hS ha (ha.evp Y) Y Y Y Y fun b349 a w hS ha=>?_);obtain⟨H349,hS,hle349,hb349⟩:=hS.give;have hr347:=hr347.mono hle349;have hr349: RowT H349 (some ⟨b349,0,none⟩) 2 [tZ,tZ]:=RowT.of_lit ([⟨tZ,none,0⟩,⟨tZ,none,0⟩]: List TV) hb349 (AllR.cons (RowT.nil _) (AllR.cons (RowT.nil _) (AllR.nil _))) (by simp) Y;have hk351:=aP hS.inv.nil hr349;refine anyw1 (i:=29) (by kernel_rfl) Y (ag Y ha Y Y Y) (Co func46 ha Y (hk351) ?_);rintro e w ⟨H350,A350,c350,rfl,hr350,hc350⟩;refine⟨_,rfl,fun a ha=>?_⟩;have hS:=hS.call hc350;have hr347:=hr347.mono hc350.le;have hk352:=aH hS.inv.nil hr347 hr350;rw [show eqL k38 k40=true from by kernel_rfl] at hk352;refine anyw1 (i:=30) (by kernel_rfl) Y (ag Y ha Y Y Y) (Co func28 ha Y (hk352) ?_);rintro e w ⟨rfl,hc⟩;refine⟨_,rfl,fun a ha=>?_⟩;have hS:=hS.call hc;refine anyw1 (i:=31) (by kernel_rfl) Y (aA Y) (an ha Y Y Y fun a ha=>?_);refine anyw1 (i:=32) (by kernel_rfl) Y (aA Y) (aB ha Y Y fun a ha=>?_);refine any0 (by kernel_rfl) ?_;refine aa (wp_ret (ret1 Y ha Y ?_));exact⟨_,rfl,hS.drop_all⟩
    ·refine id (aE (vs:= [(0,vZ),(1,vZ)]) (cells:= [(iV 0),(iV 0),(.string (⟨#[]⟩)),(.slice none 0 0),(iV 0),(iV 0),(.string (⟨#[]⟩)),(.slice none 0 0)]) T22.und T26 hS ha (ha.evp Y) Y Y Y Y fun b353 a w hS ha=>?_);obtain⟨H353,hS,hle353,hb353⟩:=hS.give;have hz:=ZS.mono hz (hle353);have hr353: RowT H353 (some ⟨b353,0,none⟩) 2 [tZ,tZ]:=RowT.of_lit ([⟨tZ,none,0⟩,⟨tZ,none,0⟩]: List TV) hb353 (AllR.cons (RowT.nil _) (AllR.cons (RowT.nil _) (AllR.nil _))) (by simp) Y;have hk355:=aX (Inv.tail (Es:= [(some b1,(.cells aZ 26 (0,0)))]) hS.inv) hz;refine anyw1 (i:=25) (by kernel_rfl) Y (ag Y ha Y Y Y) (Co func32 ha Y (hk355) ?_);rintro e w ⟨H354,A354,c354,rfl,hr354,hz354,hc354⟩;refine⟨_,rfl,fun a ha=>?_⟩;have hS:=Step.call_tail (Es:= [(some b1,(.cells aZ 26 (0,0)))]) hS hc354;have hr353:=hr353.mono hc354.le;have hk357:=aP hS.inv.nil hr353;refine anyw1 (i:=29) (by kernel_rfl) Y (ag Y ha Y Y Y) (Co func46 ha Y (hk357) ?_);rintro e w ⟨H356,A356,c356,rfl,hr356,hc356⟩;refine⟨_,rfl,fun a ha=>?_⟩;have hS:=hS.call hc356;have hr354:=hr354.mono hc356.le;have hk358:=aH hS.inv.nil hr354 hr356;rw [show eqL k38 k40=true from by kernel_rfl] at hk358;refine anyw1 (i:=30) (by kernel_rfl) Y (ag Y ha Y Y Y) (Co func28 ha Y (hk358) ?_);rintro e w ⟨rfl,hc⟩;refine⟨_,rfl,fun a ha=>?_⟩;have hS:=hS.call hc;refine anyw1 (i:=31) (by kernel_rfl) Y (aA Y) (an ha Y Y Y fun a ha=>?_);refine anyw1 (i:=32) (by kernel_rfl) Y (aA Y) (aB ha Y Y fun a ha=>?_);refine any0 (by kernel_rfl) ?_;refine aa (wp_ret (ret1 Y ha Y ?_));exact⟨_,rfl,hS.drop_all⟩
  ·refine id (ak (vs:=lZ) T26 Y ha Y (hS.blkL 0 rfl) Y (af Y) Y fun a ha=>?_);refine anyw2 (i:=25) (i':=26) (by kernel_rfl) Y (ag Y ha Y Y Y) Y (ag Y ha Y Y Y) ?_ ?_
   ·have hk360:=aX (Inv.tail (Es:= [(some b1,(.cells aZ 26 (0,0)))]) hS.inv) hz;refine id (Co func32 ha Y (hk360) ?_);rintro e w ⟨H359,A359,c359,rfl,hr359,hz359,hc359⟩;refine⟨_,rfl,fun a ha=>?_⟩;have hS:=Step.call_tail (Es:= [(some b1,(.cells aZ 26 (0,0)))]) hS hc359;refine anyw1 (i:=26) (by kernel_rfl) Y (ag Y ha Y Y Y) (ak (vs:=lZ) T26 Y ha Y (hS.blkL 0 rfl) Y (af Y) Y fun a ha=>?_);refine anyw1 (i:=28) (by kernel_rfl) Y (ag Y ha Y Y Y) (aE (vs:= [(0,vZ),(1,vZ)]) (cells:= [(iV 0),(iV 0),(.string (⟨#[]⟩)),(.slice none 0 0),(iV 0),(iV 0),(.string (⟨#[]⟩)),(.slice none 0 0)]) T22.und T26 hS ha (ha.evp Y) Y Y Y Y fun b361 a w hS ha=>?_);obtain⟨H361,hS,hle361,hb361⟩:=hS.give;have hr359:=hr359.mono hle361;have hr361: RowT H361 (some ⟨b361,0,none⟩) 2 [tZ,tZ]:=RowT.of_lit ([⟨tZ,none,0⟩,⟨tZ,none,0⟩]: List TV) hb361 (AllR.cons (RowT.nil _) (AllR.cons (RowT.nil _) (AllR.nil _))) (by simp) Y;have hk363:=aP hS.inv.nil hr361;refine anyw1 (i:=29) (by kernel_rfl) Y (ag Y ha Y Y Y) (Co func46 ha Y (hk363) ?_);rintro e w ⟨H362,A362,c362,rfl,hr362,hc362⟩;refine⟨_,rfl,fun a ha=>?_⟩;have hS:=hS.call hc362;have hr359:=hr359.mono hc362.le;have hk364:=aH hS.inv.nil hr359 hr362;rw [show eqL k38 k40=true from by kernel_rfl] at hk364;refine anyw1 (i:=30) (by kernel_rfl) Y (ag Y ha Y Y Y) (Co func28 ha Y (hk364) ?_);rintro e w ⟨rfl,hc⟩;refine⟨_,rfl,fun a ha=>?_⟩;have hS:=hS.call hc;refine anyw1 (i:=31) (by kernel_rfl) Y (aA Y) (an ha Y Y Y fun a ha=>?_);refine anyw1 (i:=32) (by kernel_rfl) Y (aA Y) (aB ha Y Y fun a ha=>?_);refine any0 (by kernel_rfl) ?_;refine aa (wp_ret (ret1 Y ha Y ?_));exact⟨_,rfl,hS.drop_all⟩
   ·refine id (ak (vs:=lZ) T26 Y ha Y (hS.blkL 0 rfl) Y (af Y) Y fun a ha=>?_);refine anyw2 (i:=25) (i':=28) (by kernel_rfl) Y (ag Y ha Y Y Y) Y (ag Y ha Y Y Y) ?_ ?_
    ·have hk366:=aX (Inv.tail (Es:= [(some b1,(.cells aZ 26 (0,0)))]) hS.inv) hz;refine id (Co func32 ha Y (hk366) ?_);rintro e w ⟨H365,A365,c365,rfl,hr365,hz365,hc365⟩;refine⟨_,rfl,fun a ha=>?_⟩;have hS:=Step.call_tail (Es:= [(some b1,(.cells aZ 26 (0,0)))]) hS hc365;refine anyw1 (i:=28) (by kernel_rfl) Y (ag Y ha Y Y Y) (aE (vs:= [(0,vZ),(1,vZ)]) (cells:= [(iV 0),(iV 0),(.string (⟨#[]⟩)),(.slice none 0 0),(iV 0),(iV 0),(.string (⟨#[]⟩)),(.slice none 0 0)]) T22.und T26 hS ha (ha.evp Y) Y Y Y Y fun b367 a w hS ha=>?_);obtain⟨H367,hS,hle367,hb367⟩:=hS.give;have hr365:=hr365.mono hle367;have hr367: RowT H367 (some ⟨b367,0,none⟩) 2 [tZ,tZ]:=RowT.of_lit ([⟨tZ,none,0⟩,⟨tZ,none,0⟩]: List TV) hb367 (AllR.cons (RowT.nil _) (AllR.cons (RowT.nil _) (AllR.nil _))) (by simp) Y;have hk369:=aP hS.inv.nil hr367;refine anyw1 (i:=29) (by kernel_rfl) Y (ag Y ha Y Y Y) (Co func46 ha Y (hk369) ?_);rintro e w ⟨H368,A368,c368,rfl,hr368,hc368⟩;refine⟨_,rfl,fun a ha=>?_⟩;have hS:=hS.call hc368;have hr365:=hr365.mono hc368.le;have hk370:=aH hS.inv.nil hr365 hr368;rw [show eqL k38 k40=true from by kernel_rfl] at hk370;refine anyw1 (i:=30) (by kernel_rfl) Y (ag Y ha Y Y Y) (Co func28 ha Y (hk370) ?_);rintro e w ⟨rfl,hc⟩;refine⟨_,rfl,fun a ha=>?_⟩;have hS:=hS.call hc;refine anyw1 (i:=31) (by kernel_rfl) Y (aA Y) (an ha Y Y Y fun a ha=>?_);refine anyw1 (i:=32) (by kernel_rfl) Y (aA Y) (aB ha Y Y fun a ha=>?_);refine any0 (by kernel_rfl) ?_;refine aa (wp_ret (ret1 Y ha Y ?_));exact⟨_,rfl,hS.drop_all⟩
    ·refine id (aE (vs:= [(0,vZ),(1,vZ)]) (cells:= [(iV 0),(iV 0),(.string (⟨#[]⟩)),(.slice none 0 0),(iV 0),(iV 0),(.string (⟨#[]⟩)),(.slice none 0 0)]) T22.und T26 hS ha (ha.evp Y) Y Y Y Y fun b371 a w hS ha=>?_);obtain⟨H371,hS,hle371,hb371⟩:=hS.give;have hz:=ZS.mono hz (hle371);have hr371: RowT H371 (some ⟨b371,0,none⟩) 2 [tZ,tZ]:=RowT.of_lit ([⟨tZ,none,0⟩,⟨tZ,none,0⟩]: List TV) hb371 (AllR.cons (RowT.nil _) (AllR.cons (RowT.nil _) (AllR.nil _))) (by simp) Y;have hk373:=aX (Inv.tail (Es:= [(some b1,(.cells aZ 26 (0,0)))]) hS.inv) hz;refine anyw1 (i:=25) (by kernel_rfl) Y (ag Y ha Y Y Y) (Co func32 ha Y (hk373) ?_);rintro e w ⟨H372,A372,c372,rfl,hr372,hz372,hc372⟩;refine⟨_,rfl,fun a ha=>?_⟩;have hS:=Step.call_tail (Es:= [(some b1,(.cells aZ 26 (0,0)))]) hS hc372;have hr371:=hr371.mono hc372.le;have hk375:=aP hS.inv.nil hr371;refine anyw1 (i:=29) (by kernel_rfl) Y (ag Y ha Y Y Y) (Co func46 ha Y (hk375) ?_);rintro e w ⟨H374,A374,c374,rfl,hr374,hc374⟩;refine⟨_,rfl,fun a ha=>?_⟩;have hS:=hS.call hc374;have hr372:=hr372.mono hc374.le;have hk376:=aH hS.inv.nil hr372 hr374;rw [show eqL k38 k40=true from by kernel_rfl] at hk376;refine anyw1 (i:=30) (by kernel_rfl) Y (ag Y ha Y Y Y) (Co func28 ha Y (hk376) ?_);rintro e w ⟨rfl,hc⟩;refine⟨_,rfl,fun a ha=>?_⟩;have hS:=hS.call hc;refine anyw1 (i:=31) (by kernel_rfl) Y (aA Y) (an ha Y Y Y fun a ha=>?_);refine anyw1 (i:=32) (by kernel_rfl) Y (aA Y) (aB ha Y Y fun a ha=>?_);refine any0 (by kernel_rfl) ?_;refine aa (wp_ret (ret1 Y ha Y ?_));exact⟨_,rfl,hS.drop_all⟩
 ·refine id (ak (vs:=lZ) T26 Y ha Y (hS.blkL 0 rfl) Y (af Y) Y fun a ha=>?_);refine anyw2 (i:=24) (i':=27) (by kernel_rfl) Y (ag Y ha Y Y Y) Y (ag Y ha Y Y Y) ?_ ?_
  ·refine id (ai ha Y Y fun a ha=>?_);refine anyw2 (i:=25) (i':=27) (by kernel_rfl) Y (ag Y ha Y Y Y) Y (ag Y ha Y Y Y) ?_ ?_
   ·have hk378:=aX (Inv.tail (Es:= [(some b1,(.cells aZ 26 (0,0)))]) hS.inv) hz;refine id (Co func32 ha Y (hk378) ?_);rintro e w ⟨H377,A377,c377,rfl,hr377,hz377,hc377⟩;refine⟨_,rfl,fun a ha=>?_⟩;have hS:=Step.call_tail (Es:= [(some b1,(.cells aZ 26 (0,0)))]) hS hc377;refine anyw1 (i:=27) (by kernel_rfl) Y (ag Y ha Y Y Y) (ak (vs:=lZ) T26 Y ha Y (hS.blkL 0 rfl) Y (af Y) Y fun a ha=>?_);refine anyw1 (i:=28) (by kernel_rfl) Y (ag Y ha Y Y Y) (aE (vs:= [(0,vZ),(1,vZ)]) (cells:= [(iV 0),(iV 0),(.string (⟨#[]⟩)),(.slice none 0 0),(iV 0),(iV 0),(.string (⟨#[]⟩)),(.slice none 0 0)]) T22.und T26 hS ha (ha.evp Y) Y Y Y Y fun b379 a w hS ha=>?_);obtain⟨H379,hS,hle379,hb379⟩:=hS.give;have hr377:=hr377.mono hle379;have hr379: RowT H379 (some ⟨b379,0,none⟩) 2 [tZ,tZ]:=RowT.of_lit ([⟨tZ,none,0⟩,⟨tZ,none,0⟩]: List TV) hb379 (AllR.cons (RowT.nil _) (AllR.cons (RowT.nil _) (AllR.nil _))) (by simp) Y;have hk381:=aP hS.inv.nil hr379;refine anyw1 (i:=29) (by kernel_rfl) Y (ag Y ha Y Y Y) (Co func46 ha Y (hk381) ?_);rintro e w ⟨H380,A380,c380,rfl,hr380,hc380⟩;refine⟨_,rfl,fun a ha=>?_⟩;have hS:=hS.call hc380;have hr377:=hr377.mono hc380.le;have hk382:=aH hS.inv.nil hr377 hr380;rw [show eqL k38 k40=true from by kernel_rfl] at hk382;refine anyw1 (i:=30) (by kernel_rfl) Y (ag Y ha Y Y Y) (Co func28 ha Y (hk382) ?_);rintro e w ⟨rfl,hc⟩;refine⟨_,rfl,fun a ha=>?_⟩;have hS:=hS.call hc;refine anyw1 (i:=31) (by kernel_rfl) Y (aA Y) (an ha Y Y Y fun a ha=>?_);refine anyw1 (i:=32) (by kernel_rfl) Y (aA Y) (aB ha Y Y fun a ha=>?_);refine any0 (by kernel_rfl) ?_;refine aa (wp_ret (ret1 Y ha Y ?_));exact⟨_,rfl,hS.drop_all⟩
   ·refine id (ak (vs:=lZ) T26 Y ha Y (hS.blkL 0 rfl) Y (af Y) Y fun a ha=>?_);refine anyw2 (i:=25) (i':=28) (by kernel_rfl) Y (ag Y ha Y Y Y) Y (ag Y ha Y Y Y) ?_ ?_
    ·have hk384:=aX (Inv.tail (Es:= [(some b1,(.cells aZ 26 (0,0)))]) hS.inv) hz;refine id (Co func32 ha Y (hk384) ?_);rintro e w ⟨H383,A383,c383,rfl,hr383,hz383,hc383⟩;refine⟨_,rfl,fun a ha=>?_⟩;have hS:=Step.call_tail (Es:= [(some b1,(.cells aZ 26 (0,0)))]) hS hc383;refine anyw1 (i:=28) (by kernel_rfl) Y (ag Y ha Y Y Y) (aE (vs:= [(0,vZ),(1,vZ)]) (cells:= [(iV 0),(iV 0),(.string (⟨#[]⟩)),(.slice none 0 0),(iV 0),(iV 0),(.string (⟨#[]⟩)),(.slice none 0 0)]) T22.und T26 hS ha (ha.evp Y) Y Y Y Y fun b385 a w hS ha=>?_);obtain⟨H385,hS,hle385,hb385⟩:=hS.give;have hr383:=hr383.mono hle385;have hr385: RowT H385 (some ⟨b385,0,none⟩) 2 [tZ,tZ]:=RowT.of_lit ([⟨tZ,none,0⟩,⟨tZ,none,0⟩]: List TV) hb385 (AllR.cons (RowT.nil _) (AllR.cons (RowT.nil _) (AllR.nil _))) (by simp) Y;have hk387:=aP hS.inv.nil hr385;refine anyw1 (i:=29) (by kernel_rfl) Y (ag Y ha Y Y Y) (Co func46 ha Y (hk387) ?_);rintro e w ⟨H386,A386,c386,rfl,hr386,hc386⟩;refine⟨_,rfl,fun a ha=>?_⟩;have hS:=hS.call hc386;have hr383:=hr383.mono hc386.le;have hk388:=aH hS.inv.nil hr383 hr386;rw [show eqL k38 k40=true from by kernel_rfl] at hk388;refine anyw1 (i:=30) (by kernel_rfl) Y (ag Y ha Y Y Y) (Co func28 ha Y (hk388) ?_);rintro e w ⟨rfl,hc⟩;refine⟨_,rfl,fun a ha=>?_⟩;have hS:=hS.call hc;refine anyw1 (i:=31) (by kernel_rfl) Y (aA Y) (an ha Y Y Y fun a ha=>?_);refine anyw1 (i:=32) (by kernel_rfl) Y (aA Y) (aB ha Y Y fun a ha=>?_);refine any0 (by kernel_rfl) ?_;refine aa (wp_ret (ret1 Y ha Y ?_));exact⟨_,rfl,hS.drop_all⟩
    ·refine id (aE (vs:= [(0,vZ),(1,vZ)]) (cells:= [(iV 0),(iV 0),(.string (⟨#[]⟩)),(.slice none 0 0),(iV 0),(iV 0),(.string (⟨#[]⟩)),(.slice none 0 0)]) T22.und T26 hS ha (ha.evp Y) Y Y Y Y fun b389 a w hS ha=>?_);obtain⟨H389,hS,hle389,hb389⟩:=hS.give;have hz:=ZS.mono hz (hle389);have hr389: RowT H389 (some ⟨b389,0,none⟩) 2 [tZ,tZ]:=RowT.of_lit ([⟨tZ,none,0⟩,⟨tZ,none,0⟩]: List TV) hb389 (AllR.cons (RowT.nil _) (AllR.cons (RowT.nil _) (AllR.nil _))) (by simp) Y;have hk391:=aX (Inv.tail (Es:= [(some b1,(.cells aZ 26 (0,0)))]) hS.inv) hz;refine anyw1 (i:=25) (by kernel_rfl) Y (ag Y ha Y Y Y) (Co func32 ha Y (hk391) ?_);rintro e w ⟨H390,A390,c390,rfl,hr390,hz390,hc390⟩;refine⟨_,rfl,fun a ha=>?_⟩;have hS:=Step.call_tail (Es:= [(some b1,(.cells aZ 26 (0,0)))]) hS hc390;have hr389:=hr389.mono hc390.le;have hk393:=aP hS.inv.nil hr389;refine anyw1 (i:=29) (by kernel_rfl) Y (ag Y ha Y Y Y) (Co func46 ha Y (hk393) ?_);rintro e w ⟨H392,A392,c392,rfl,hr392,hc392⟩;refine⟨_,rfl,fun a ha=>?_⟩;have hS:=hS.call hc392;have hr390:=hr390.mono hc392.le;have hk394:=aH hS.inv.nil hr390 hr392;rw [show eqL k38 k40=true from by kernel_rfl] at hk394;refine anyw1 (i:=30) (by kernel_rfl) Y (ag Y ha Y Y Y) (Co func28 ha Y (hk394) ?_);rintro e w ⟨rfl,hc⟩;refine⟨_,rfl,fun a ha=>?_⟩;have hS:=hS.call hc;refine anyw1 (i:=31) (by kernel_rfl) Y (aA Y) (an ha Y Y Y fun a ha=>?_);refine anyw1 (i:=32) (by kernel_rfl) Y (aA Y) (aB ha Y Y fun a ha=>?_);refine any0 (by kernel_rfl) ?_;refine aa (wp_ret (ret1 Y ha Y ?_));exact⟨_,rfl,hS.drop_all⟩
  ·refine id (ak (vs:=lZ) T26 Y ha Y (hS.blkL 0 rfl) Y (af Y) Y fun a ha=>?_);refine anyw2 (i:=24) (i':=28) (by kernel_rfl) Y (ag Y ha Y Y Y) Y (ag Y ha Y Y Y) ?_ ?_
   ·refine id (ai ha Y Y fun a ha=>?_);refine anyw2 (i:=25) (i':=28) (by kernel_rfl) Y (ag Y ha Y Y Y) Y (ag Y ha Y Y Y) ?_ ?_
    ·have hk396:=aX (Inv.tail (Es:= [(some b1,(.cells aZ 26 (0,0)))]) hS.inv) hz;refine id (Co func32 ha Y (hk396) ?_);rintro e w ⟨H395,A395,c395,rfl,hr395,hz395,hc395⟩;refine⟨_,rfl,fun a ha=>?_⟩;have hS:=Step.call_tail (Es:= [(some b1,(.cells aZ 26 (0,0)))]) hS hc395;refine anyw1 (i:=28) (by kernel_rfl) Y (ag Y ha Y Y Y) (aE (vs:= [(0,vZ),(1,vZ)]) (cells:= [(iV 0),(iV 0),(.string (⟨#[]⟩)),(.slice none 0 0),(iV 0),(iV 0),(.string (⟨#[]⟩)),(.slice none 0 0)]) T22.und T26 hS ha (ha.evp Y) Y Y Y Y fun b397 a w hS ha=>?_);obtain⟨H397,hS,hle397,hb397⟩:=hS.give;have hr395:=hr395.mono hle397;have hr397: RowT H397 (some ⟨b397,0,none⟩) 2 [tZ,tZ]:=RowT.of_lit ([⟨tZ,none,0⟩,⟨tZ,none,0⟩]: List TV) hb397 (AllR.cons (RowT.nil _) (AllR.cons (RowT.nil _) (AllR.nil _))) (by simp) Y;have hk399:=aP hS.inv.nil hr397;refine anyw1 (i:=29) (by kernel_rfl) Y (ag Y ha Y Y Y) (Co func46 ha Y (hk399) ?_);rintro e w ⟨H398,A398,c398,rfl,hr398,hc398⟩;refine⟨_,rfl,fun a ha=>?_⟩;have hS:=hS.call hc398;have hr395:=hr395.mono hc398.le;have hk400:=aH hS.inv.nil hr395 hr398;rw [show eqL k38 k40=true from by kernel_rfl] at hk400;refine anyw1 (i:=30) (by kernel_rfl) Y (ag Y ha Y Y Y) (Co func28 ha Y (hk400) ?_);rintro e w ⟨rfl,hc⟩;refine⟨_,rfl,fun a ha=>?_⟩;have hS:=hS.call hc;refine anyw1 (i:=31) (by kernel_rfl) Y (aA Y) (an ha Y Y Y fun a ha=>?_);refine anyw1 (i:=32) (by kernel_rfl) Y (aA Y) (aB ha Y Y fun a ha=>?_);refine any0 (by kernel_rfl) ?_;refine aa (wp_ret (ret1 Y ha Y ?_));exact⟨_,rfl,hS.drop_all⟩
    ·refine id (aE (vs:= [(0,vZ),(1,vZ)]) (cells:= [(iV 0),(iV 0),(.string (⟨#[]⟩)),(.slice none 0 0),(iV 0),(iV 0),(.string (⟨#[]⟩)),(.slice none 0 0)]) T22.und T26 hS ha (ha.evp Y) Y Y Y Y fun b401 a w hS ha=>?_);obtain⟨H401,hS,hle401,hb401⟩:=hS.give;have hz:=ZS.mono hz (hle401);have hr401: RowT H401 (some ⟨b401,0,none⟩) 2 [tZ,tZ]:=RowT.of_lit ([⟨tZ,none,0⟩,⟨tZ,none,0⟩]: List TV) hb401 (AllR.cons (RowT.nil _) (AllR.cons (RowT.nil _) (AllR.nil _))) (by simp) Y;have hk403:=aX (Inv.tail (Es:= [(some b1,(.cells aZ 26 (0,0)))]) hS.inv) hz;refine anyw1 (i:=25) (by kernel_rfl) Y (ag Y ha Y Y Y) (Co func32 ha Y (hk403) ?_);rintro e w ⟨H402,A402,c402,rfl,hr402,hz402,hc402⟩;refine⟨_,rfl,fun a ha=>?_⟩;have hS:=Step.call_tail (Es:= [(some b1,(.cells aZ 26 (0,0)))]) hS hc402;have hr401:=hr401.mono hc402.le;have hk405:=aP hS.inv.nil hr401;refine anyw1 (i:=29) (by kernel_rfl) Y (ag Y ha Y Y Y) (Co func46 ha Y (hk405) ?_);rintro e w ⟨H404,A404,c404,rfl,hr404,hc404⟩;refine⟨_,rfl,fun a ha=>?_⟩;have hS:=hS.call hc404;have hr402:=hr402.mono hc404.le;have hk406:=aH hS.inv.nil hr402 hr404;rw [show eqL k38 k40=true from by kernel_rfl] at hk406;refine anyw1 (i:=30) (by kernel_rfl) Y (ag Y ha Y Y Y) (Co func28 ha Y (hk406) ?_);rintro e w ⟨rfl,hc⟩;refine⟨_,rfl,fun a ha=>?_⟩;have hS:=hS.call hc;refine anyw1 (i:=31) (by kernel_rfl) Y (aA Y) (an ha Y Y Y fun a ha=>?_);refine anyw1 (i:=32) (by kernel_rfl) Y (aA Y) (aB ha Y Y fun a ha=>?_);refine any0 (by kernel_rfl) ?_;refine aa (wp_ret (ret1 Y ha Y ?_));exact⟨_,rfl,hS.drop_all⟩
   ·refine id (aE (vs:= [(0,vZ),(1,vZ)]) (cells:= [(iV 0),(iV 0),(.string (⟨#[]⟩)),(.slice none 0 0),(iV 0),(iV 0),(.string (⟨#[]⟩)),(.slice none 0 0)]) T22.und T26 hS ha (ha.evp Y) Y Y Y Y fun b407 a w hS ha=>?_);obtain⟨H407,hS,hle407,hb407⟩:=hS.give;have hz:=ZS.mono hz (hle407);have hr407: RowT H407 (some ⟨b407,0,none⟩) 2 [tZ,tZ]:=RowT.of_lit ([⟨tZ,none,0⟩,⟨tZ,none,0⟩]: List TV) hb407 (AllR.cons (RowT.nil _) (AllR.cons (RowT.nil _) (AllR.nil _))) (by simp) Y;refine anyw1 (i:=24) (by kernel_rfl) Y (ag Y ha Y Y Y) (ai ha Y Y fun a ha=>?_);have hk409:=aX (Inv.tail (Es:= [(some b1,(.cells aZ 26 (0,0)))]) hS.inv) hz;refine anyw1 (i:=25) (by kernel_rfl) Y (ag Y ha Y Y Y) (Co func32 ha Y (hk409) ?_);rintro e w ⟨H408,A408,c408,rfl,hr408,hz408,hc408⟩;refine⟨_,rfl,fun a ha=>?_⟩;have hS:=Step.call_tail (Es:= [(some b1,(.cells aZ 26 (0,0)))]) hS hc408;have hr407:=hr407.mono hc408.le;have hk411:=aP hS.inv.nil hr407;refine anyw1 (i:=29) (by kernel_rfl) Y (ag Y ha Y Y Y) (Co func46 ha Y (hk411) ?_);rintro e w ⟨H410,A410,c410,rfl,hr410,hc410⟩;refine⟨_,rfl,fun a ha=>?_⟩;have hS:=hS.call hc410;have hr408:=hr408.mono hc410.le;have hk412:=aH hS.inv.nil hr408 hr410;rw [show eqL k38 k40=true from by kernel_rfl] at hk412;refine anyw1 (i:=30) (by kernel_rfl) Y (ag Y ha Y Y Y) (Co func28 ha Y (hk412) ?_);rintro e w ⟨rfl,hc⟩;refine⟨_,rfl,fun a ha=>?_⟩;have hS:=hS.call hc;refine anyw1 (i:=31) (by kernel_rfl) Y (aA Y) (an ha Y Y Y fun a ha=>?_);refine anyw1 (i:=32) (by kernel_rfl) Y (aA Y) (aB ha Y Y fun a ha=>?_);refine any0 (by kernel_rfl) ?_;refine aa (wp_ret (ret1 Y ha Y ?_));exact⟨_,rfl,hS.drop_all⟩
 ·refine id (ak (vs:=lZ) T26 Y ha Y (hS.blkL 0 rfl) Y (af Y) Y fun a ha=>?_);refine anyw2 (i:=24) (i':=26) (by kernel_rfl) Y (ag Y ha Y Y Y) Y (ag Y ha Y Y Y) ?_ ?_
  ·refine id (ai ha Y Y fun a ha=>?_);refine anyw2 (i:=25) (i':=26) (by kernel_rfl) Y (ag Y ha Y Y Y) Y (ag Y ha Y Y Y) ?_ ?_
   ·have hk414:=aX (Inv.tail (Es:= [(some b1,(.cells aZ 26 (0,0)))]) hS.inv) hz;refine id (Co func32 ha Y (hk414) ?_);rintro e w ⟨H413,A413,c413,rfl,hr413,hz413,hc413⟩;refine⟨_,rfl,fun a ha=>?_⟩;have hS:=Step.call_tail (Es:= [(some b1,(.cells aZ 26 (0,0)))]) hS hc413;refine anyw1 (i:=26) (by kernel_rfl) Y (ag Y ha Y Y Y) (ak (vs:=lZ) T26 Y ha Y (hS.blkL 0 rfl) Y (af Y) Y fun a ha=>?_);refine anyw1 (i:=28) (by kernel_rfl) Y (ag Y ha Y Y Y) (aE (vs:= [(0,vZ),(1,vZ)]) (cells:= [(iV 0),(iV 0),(.string (⟨#[]⟩)),(.slice none 0 0),(iV 0),(iV 0),(.string (⟨#[]⟩)),(.slice none 0 0)]) T22.und T26 hS ha (ha.evp Y) Y Y Y Y fun b415 a w hS ha=>?_);obtain⟨H415,hS,hle415,hb415⟩:=hS.give;have hr413:=hr413.mono hle415;have hr415: RowT H415 (some ⟨b415,0,none⟩) 2 [tZ,tZ]:=RowT.of_lit ([⟨tZ,none,0⟩,⟨tZ,none,0⟩]: List TV) hb415 (AllR.cons (RowT.nil _) (AllR.cons (RowT.nil _) (AllR.nil _))) (by simp) Y;have hk417:=aP hS.inv.nil hr415;refine anyw1 (i:=29) (by kernel_rfl) Y (ag Y ha Y Y Y) (Co func46 ha Y (hk417) ?_);rintro e w ⟨H416,A416,c416,rfl,hr416,hc416⟩;refine⟨_,rfl,fun a ha=>?_⟩;have hS:=hS.call hc416;have hr413:=hr413.mono hc416.le;have hk418:=aH hS.inv.nil hr413 hr416;rw [show eqL k38 k40=true from by kernel_rfl] at hk418;refine anyw1 (i:=30) (by kernel_rfl) Y (ag Y ha Y Y Y) (Co func28 ha Y (hk418) ?_);rintro e w ⟨rfl,hc⟩;refine⟨_,rfl,fun a ha=>?_⟩;have hS:=hS.call hc;refine anyw1 (i:=31) (by kernel_rfl) Y (aA Y) (an ha Y Y Y fun a ha=>?_);refine anyw1 (i:=32) (by kernel_rfl) Y (aA Y) (aB ha Y Y fun a ha=>?_);refine any0 (by kernel_rfl) ?_;refine aa (wp_ret (ret1 Y ha Y ?_));exact⟨_,rfl,hS.drop_all⟩
   ·refine id (ak (vs:=lZ) T26 Y ha Y (hS.blkL 0 rfl) Y (af Y) Y fun a ha=>?_);refine anyw2 (i:=25) (i':=28) (by kernel_rfl) Y (ag Y ha Y Y Y) Y (ag Y ha Y Y Y) ?_ ?_
    ·have hk420:=aX (Inv.tail (Es:= [(some b1,(.cells aZ 26 (0,0)))]) hS.inv) hz;refine id (Co func32 ha Y (hk420) ?_);rintro e w ⟨H419,A419,c419,rfl,hr419,hz419,hc419⟩;refine⟨_,rfl,fun a ha=>?_⟩;have hS:=Step.call_tail (Es:= [(some b1,(.cells aZ 26 (0,0)))]) hS hc419;refine anyw1 (i:=28) (by kernel_rfl) Y (ag Y ha Y Y Y) (aE (vs:= [(0,vZ),(1,vZ)]) (cells:= [(iV 0),(iV 0),(.string (⟨#[]⟩)),(.slice none 0 0),(iV 0),(iV 0),(.string (⟨#[]⟩)),(.slice none 0 0)]) T22.und T26 hS ha (ha.evp Y) Y Y Y Y fun b421 a w hS ha=>?_);obtain⟨H421,hS,hle421,hb421⟩:=hS.give;have hr419:=hr419.mono hle421;have hr421: RowT H421 (some ⟨b421,0,none⟩) 2 [tZ,tZ]:=RowT.of_lit ([⟨tZ,none,0⟩,⟨tZ,none,0⟩]: List TV) hb421 (AllR.cons (RowT.nil _) (AllR.cons (RowT.nil _) (AllR.nil _))) (by simp) Y;have hk423:=aP hS.inv.nil hr421;refine anyw1 (i:=29) (by kernel_rfl) Y (ag Y ha Y Y Y) (Co func46 ha Y (hk423) ?_);rintro e w ⟨H422,A422,c422,rfl,hr422,hc422⟩;refine⟨_,rfl,fun a ha=>?_⟩;have hS:=hS.call hc422;have hr419:=hr419.mono hc422.le;have hk424:=aH hS.inv.nil hr419 hr422;rw [show eqL k38 k40=true from by kernel_rfl] at hk424;refine anyw1 (i:=30) (by kernel_rfl) Y (ag Y ha Y Y Y) (Co func28 ha Y (hk424) ?_);rintro e w ⟨rfl,hc⟩;refine⟨_,rfl,fun a ha=>?_⟩;have hS:=hS.call hc;refine anyw1 (i:=31) (by kernel_rfl) Y (aA Y) (an ha Y Y Y fun a ha=>?_);refine anyw1 (i:=32) (by kernel_rfl) Y (aA Y) (aB ha Y Y fun a ha=>?_);refine any0 (by kernel_rfl) ?_;refine aa (wp_ret (ret1 Y ha Y ?_));exact⟨_,rfl,hS.drop_all⟩
    ·refine id (aE (vs:= [(0,vZ),(1,vZ)]) (cells:= [(iV 0),(iV 0),(.string (⟨#[]⟩)),(.slice none 0 0),(iV 0),(iV 0),(.string (⟨#[]⟩)),(.slice none 0 0)]) T22.und T26 hS ha (ha.evp Y) Y Y Y Y fun b425 a w hS ha=>?_);obtain⟨H425,hS,hle425,hb425⟩:=hS.give;have hz:=ZS.mono hz (hle425);have hr425: RowT H425 (some ⟨b425,0,none⟩) 2 [tZ,tZ]:=RowT.of_lit ([⟨tZ,none,0⟩,⟨tZ,none,0⟩]: List TV) hb425 (AllR.cons (RowT.nil _) (AllR.cons (RowT.nil _) (AllR.nil _))) (by simp) Y;have hk427:=aX (Inv.tail (Es:= [(some b1,(.cells aZ 26 (0,0)))]) hS.inv) hz;refine anyw1 (i:=25) (by kernel_rfl) Y (ag Y ha Y Y Y) (Co func32 ha Y (hk427) ?_);rintro e w ⟨H426,A426,c426,rfl,hr426,hz426,hc426⟩;refine⟨_,rfl,fun a ha=>?_⟩;have hS:=Step.call_tail (Es:= [(some b1,(.cells aZ 26 (0,0)))]) hS hc426;have hr425:=hr425.mono hc426.le;have hk429:=aP hS.inv.nil hr425;refine anyw1 (i:=29) (by kernel_rfl) Y (ag Y ha Y Y Y) (Co func46 ha Y (hk429) ?_);rintro e w ⟨H428,A428,c428,rfl,hr428,hc428⟩;refine⟨_,rfl,fun a ha=>?_⟩;have hS:=hS.call hc428;have hr426:=hr426.mono hc428.le;have hk430:=aH hS.inv.nil hr426 hr428;rw [show eqL k38 k40=true from by kernel_rfl] at hk430;refine anyw1 (i:=30) (by kernel_rfl) Y (ag Y ha Y Y Y) (Co func28 ha Y (hk430) ?_);rintro e w ⟨rfl,hc⟩;refine⟨_,rfl,fun a ha=>?_⟩;have hS:=hS.call hc;refine anyw1 (i:=31) (by kernel_rfl) Y (aA Y) (an ha Y Y Y fun a ha=>?_);refine anyw1 (i:=32) (by kernel_rfl) Y (aA Y) (aB ha Y Y fun a ha=>?_);refine any0 (by kernel_rfl) ?_;refine aa (wp_ret (ret1 Y ha Y ?_));exact⟨_,rfl,hS.drop_all⟩
  ·refine id (ak (vs:=lZ) T26 Y ha Y (hS.blkL 0 rfl) Y (af Y) Y fun a ha=>?_);refine anyw2 (i:=24) (i':=28) (by kernel_rfl) Y (ag Y ha Y Y Y) Y (ag Y ha Y Y Y) ?_ ?_
   ·refine id (ai ha Y Y fun a ha=>?_);refine anyw2 (i:=25) (i':=28) (by kernel_rfl) Y (ag Y ha Y Y Y) Y (ag Y ha Y Y Y) ?_ ?_
    ·have hk432:=aX (Inv.tail (Es:= [(some b1,(.cells aZ 26 (0,0)))]) hS.inv) hz;refine id (Co func32 ha Y (hk432) ?_);rintro e w ⟨H431,A431,c431,rfl,hr431,hz431,hc431⟩;refine⟨_,rfl,fun a ha=>?_⟩;have hS:=Step.call_tail (Es:= [(some b1,(.cells aZ 26 (0,0)))]) hS hc431;refine anyw1 (i:=28) (by kernel_rfl) Y (ag Y ha Y Y Y) (aE (vs:= [(0,vZ),(1,vZ)]) (cells:= [(iV 0),(iV 0),(.string (⟨#[]⟩)),(.slice none 0 0),(iV 0),(iV 0),(.string (⟨#[]⟩)),(.slice none 0 0)]) T22.und T26 hS ha (ha.evp Y) Y Y Y Y fun b433 a w hS ha=>?_);obtain⟨H433,hS,hle433,hb433⟩:=hS.give;have hr431:=hr431.mono hle433;have hr433: RowT H433 (some ⟨b433,0,none⟩) 2 [tZ,tZ]:=RowT.of_lit ([⟨tZ,none,0⟩,⟨tZ,none,0⟩]: List TV) hb433 (AllR.cons (RowT.nil _) (AllR.cons (RowT.nil _) (AllR.nil _))) (by simp) Y;have hk435:=aP hS.inv.nil hr433;refine anyw1 (i:=29) (by kernel_rfl) Y (ag Y ha Y Y Y) (Co func46 ha Y (hk435) ?_);rintro e w ⟨H434,A434,c434,rfl,hr434,hc434⟩;refine⟨_,rfl,fun a ha=>?_⟩;have hS:=hS.call hc434;have hr431:=hr431.mono hc434.le;have hk436:=aH hS.inv.nil hr431 hr434;rw [show eqL k38 k40=true from by kernel_rfl] at hk436;refine anyw1 (i:=30) (by kernel_rfl) Y (ag Y ha Y Y Y) (Co func28 ha Y (hk436) ?_);rintro e w ⟨rfl,hc⟩;refine⟨_,rfl,fun a ha=>?_⟩;have hS:=hS.call hc;refine anyw1 (i:=31) (by kernel_rfl) Y (aA Y) (an ha Y Y Y fun a ha=>?_);refine anyw1 (i:=32) (by kernel_rfl) Y (aA Y) (aB ha Y Y fun a ha=>?_);refine any0 (by kernel_rfl) ?_;refine aa (wp_ret (ret1 Y ha Y ?_));exact⟨_,rfl,hS.drop_all⟩
    ·refine id (aE (vs:= [(0,vZ),(1,vZ)]) (cells:= [(iV 0),(iV 0),(.string (⟨#[]⟩)),(.slice none 0 0),(iV 0),(iV 0),(.string (⟨#[]⟩)),(.slice none 0 0)]) T22.und T26 hS ha (ha.evp Y) Y Y Y Y fun b437 a w hS ha=>?_);obtain⟨H437,hS,hle437,hb437⟩:=hS.give;have hz:=ZS.mono hz (hle437);have hr437: RowT H437 (some ⟨b437,0,none⟩) 2 [tZ,tZ]:=RowT.of_lit ([⟨tZ,none,0⟩,⟨tZ,none,0⟩]: List TV) hb437 (AllR.cons (RowT.nil _) (AllR.cons (RowT.nil _) (AllR.nil _))) (by simp) Y;have hk439:=aX (Inv.tail (Es:= [(some b1,(.cells aZ 26 (0,0)))]) hS.inv) hz;refine anyw1 (i:=25) (by kernel_rfl) Y (ag Y ha Y Y Y) (Co func32 ha Y (hk439) ?_);rintro e w ⟨H438,A438,c438,rfl,hr438,hz438,hc438⟩;refine⟨_,rfl,fun a ha=>?_⟩;have hS:=Step.call_tail (Es:= [(some b1,(.cells aZ 26 (0,0)))]) hS hc438;have hr437:=hr437.mono hc438.le;have hk441:=aP hS.inv.nil hr437;refine anyw1 (i:=29) (by kernel_rfl) Y (ag Y ha Y Y Y) (Co func46 ha Y (hk441) ?_);rintro e w ⟨H440,A440,c440,rfl,hr440,hc440⟩;refine⟨_,rfl,fun a ha=>?_⟩;have hS:=hS.call hc440;have hr438:=hr438.mono hc440.le;have hk442:=aH hS.inv.nil hr438 hr440;rw [show eqL k38 k40=true from by kernel_rfl] at hk442;refine anyw1 (i:=30) (by kernel_rfl) Y (ag Y ha Y Y Y) (Co func28 ha Y (hk442) ?_);rintro e w ⟨rfl,hc⟩;refine⟨_,rfl,fun a ha=>?_⟩;have hS:=hS.call hc;refine anyw1 (i:=31) (by kernel_rfl) Y (aA Y) (an ha Y Y Y fun a ha=>?_);refine anyw1 (i:=32) (by kernel_rfl) Y (aA Y) (aB ha Y Y fun a ha=>?_);refine any0 (by kernel_rfl) ?_;refine aa (wp_ret (ret1 Y ha Y ?_));exact⟨_,rfl,hS.drop_all⟩
   ·refine id (aE (vs:= [(0,vZ),(1,vZ)]) (cells:= [(iV 0),(iV 0),(.string (⟨#[]⟩)),(.slice none 0 0),(iV 0),(iV 0),(.string (⟨#[]⟩)),(.slice none 0 0)]) T22.und T26 hS ha (ha.evp Y) Y Y Y Y fun b443 a w hS ha=>?_);obtain⟨H443,hS,hle443,hb443⟩:=hS.give;have hz:=ZS.mono hz (hle443);have hr443: RowT H443 (some ⟨b443,0,none⟩) 2 [tZ,tZ]:=RowT.of_lit ([⟨tZ,none,0⟩,⟨tZ,none,0⟩]: List TV) hb443 (AllR.cons (RowT.nil _) (AllR.cons (RowT.nil _) (AllR.nil _))) (by simp) Y;refine anyw1 (i:=24) (by kernel_rfl) Y (ag Y ha Y Y Y) (ai ha Y Y fun a ha=>?_);have hk445:=aX (Inv.tail (Es:= [(some b1,(.cells aZ 26 (0,0)))]) hS.inv) hz;refine anyw1 (i:=25) (by kernel_rfl) Y (ag Y ha Y Y Y) (Co func32 ha Y (hk445) ?_);rintro e w ⟨H444,A444,c444,rfl,hr444,hz444,hc444⟩;refine⟨_,rfl,fun a ha=>?_⟩;have hS:=Step.call_tail (Es:= [(some b1,(.cells aZ 26 (0,0)))]) hS hc444;have hr443:=hr443.mono hc444.le;have hk447:=aP hS.inv.nil hr443;refine anyw1 (i:=29) (by kernel_rfl) Y (ag Y ha Y Y Y) (Co func46 ha Y (hk447) ?_);rintro e w ⟨H446,A446,c446,rfl,hr446,hc446⟩;refine⟨_,rfl,fun a ha=>?_⟩;have hS:=hS.call hc446;have hr444:=hr444.mono hc446.le;have hk448:=aH hS.inv.nil hr444 hr446;rw [show eqL k38 k40=true from by kernel_rfl] at hk448;refine anyw1 (i:=30) (by kernel_rfl) Y (ag Y ha Y Y Y) (Co func28 ha Y (hk448) ?_);rintro e w ⟨rfl,hc⟩;refine⟨_,rfl,fun a ha=>?_⟩;have hS:=hS.call hc;refine anyw1 (i:=31) (by kernel_rfl) Y (aA Y) (an ha Y Y Y fun a ha=>?_);refine anyw1 (i:=32) (by kernel_rfl) Y (aA Y) (aB ha Y Y fun a ha=>?_);refine any0 (by kernel_rfl) ?_;refine aa (wp_ret (ret1 Y ha Y ?_));exact⟨_,rfl,hS.drop_all⟩
end Go.Vk.Try
namespace Go.Vk
open Go.RowKit
def RowG {α: Type} (sz: Nat) (f: α→List Value) (H: PHeap) (A: Option Addr) (c: Nat) (xs: List α): Prop:=
 xs.length≤c∧xs.length≤1048576∧∃(b off e: Nat) (cs: Array Value) (fz: Nat × Nat),(xs≠[]→A=some ⟨b,off,none⟩∧H b=some (.cells cs e fz))∧∀ j x,xs[j]? =some x→∀ i u,(f x)[i]? =some u→cs[off+j * sz+i]? =some u
theorem RowG.mono {α: Type} {sz: Nat} {f: α→List Value} {H H': PHeap} {A: Option Addr} {c: Nat} {xs: List α} (h: RowG sz f H A c xs) (hl: Le H H'): RowG sz f H' A c xs:=by
 obtain⟨h1,h2,b,off,e,cs,fz,h3,h4⟩:=h;exact⟨h1,h2,b,off,e,cs,fz,fun hn=>⟨(h3 hn).1,hl _ _ (h3 hn).2⟩,h4⟩
theorem RowG.len {α: Type} {sz: Nat} {f: α→List Value} {H: PHeap} {A: Option Addr} {c: Nat} {xs: List α} (h: RowG sz f H A c xs): xs.length≤c∧xs.length≤1048576:=⟨h.1,h.2.1⟩
theorem RowG.get {α: Type} {sz: Nat} {f: α→List Value} {H: PHeap} {A: Option Addr} {c: Nat} {xs: List α} (h: RowG sz f H A c xs) {j: Nat} (hj: j < xs.length) :
  ∃(x: α) (b off e: Nat) (cs: Array Value) (fz: Nat × Nat),xs[j]? =some x∧A=some ⟨b,off,none⟩∧H b=some (.cells cs e fz)∧∀ i u,(f x)[i]? =some u→cs[off+j * sz+i]? =some u:=by
 obtain⟨_,_,b,off,e,cs,fz,h3,h4⟩:=h;obtain⟨h5,h6⟩:=h3 (fun e=>by subst e;simp at hj);exact⟨xs[j],b,off,e,cs,fz,List.getElem?_eq_getElem hj,h5,h6,h4 j _ (List.getElem?_eq_getElem hj)⟩
end Go.Vk
namespace Go.Vk
open Go.RowKit
structure OpV where
 dO: Int
 n: Int
 a: TV
 b: TV
def OpV.cells (p: OpV): List Value:=.int .i64 p.dO::.int .i64 p.n::(p.a.cells++p.b.cells)
def AllO (H: PHeap) (ps: List OpV): Prop:= ∀ p ∈ ps,RowT H p.a.A p.a.c p.a.t.l∧RowT H p.b.A p.b.c p.b.t.l
theorem AllO.mono {H H': PHeap} {ps: List OpV} (h: AllO H ps) (hl: Le H H'): AllO H' ps:=fun p hp=>⟨(h p hp).1.mono hl,(h p hp).2.mono hl⟩
def InN (ps: List OpV): Prop:= ∀ p ∈ ps, -9223372036854775808≤p.n∧p.n≤9223372036854775807
def opB (p: OpV): Bool:=(lawC 100 1 p.a.t).1&&(lawC (lawC 100 1 p.a.t).2 1 p.b.t).1
def fewB (ps: List OpV): Bool:=decide (ps.length≤40)&&ps.all opB
theorem fewB_len {ps: List OpV} (h: fewB ps=true): ps.length≤40:=by
 unfold fewB at h;rw [Bool.and_eq_true] at h;exact of_decide_eq_true h.1
theorem fewB_at {ps: List OpV} (h: fewB ps=true) {p: OpV} (hp: p ∈ ps): opB p=true:=by
 unfold fewB at h;rw [Bool.and_eq_true] at h;exact List.all_eq_true.1 h.2 p hp
end Go.Vk
namespace Go.Vk
def Rl (B: List Tm) (x v: Int): Prop:=x ∈ occ (bnd B v)
end Go.Vk
namespace Go.Vk
def sameV (a b: Tm): Bool:=(decide (a.kind=1)&&decide (b.kind=1))&&decide (a.n=b.n)
structure CW (B: List Tm) (k: Nat) (qs: List (Tm × Tm)) (ps: List (Tm × Tm)) (r: Bool × Int): Prop where
 t: r.1=true→∃ k': Nat,r.2=(k': Int)∧k'≤k∧wlk (fun _: Unit=>B) bdE k (qs++ps) ()=wlk (fun _: Unit=>B) bdE k' ps ()
 n: r.1=false→r.2 < 0→(wlk (fun _: Unit=>B) bdE k (qs++ps) ()).1=(false,2)
 p: r.1=false→0≤r.2→(wlk (fun _: Unit=>B) bdE k (qs++ps) ()).1=(false,0)
theorem CW.yes {B: List Tm} {k k': Nat} {qs ps: List (Tm × Tm)} (hk: k'≤k) (h: wlk (fun _: Unit=>B) bdE k (qs++ps) ()=wlk (fun _: Unit=>B) bdE k' ps ()): CW B k qs ps (true,(k': Int)):=
 ⟨fun _=>⟨k',rfl,hk,h⟩,fun h=>(by cases h),fun h=>(by cases h)⟩
theorem CW.no {B: List Tm} {k k': Nat} {qs ps: List (Tm × Tm)} (h:(wlk (fun _: Unit=>B) bdE k (qs++ps) ()).1=(false,0)): CW B k qs ps (false,(k': Int)):=
 ⟨fun h=>(by cases h),fun _ h=>(by simp at h;omega),fun _ _=>h⟩
end Go.Vk
namespace Go.Vk
open Go.RowKit
structure RdT (w: World) (H: PHeap) (L0: List Ent) (A: Option Addr) (c: Nat) (B: List Tm): Prop where
 len: B.length≤c∧B.length≤2513169434916
 get: ∀ {j: Nat},j < B.length→∃(t: Tm) (b off e: Nat) (cs: Array Value) (fz: Nat × Nat) (A': Option Addr) (c': Nat),B[j]? =some t∧A=some ⟨b,off,none⟩∧(w.heap[b]? =some (.cells cs e fz)∧¬ dom L0 b)∧(∀ i u,(tcells t A' c')[i]? =some u→cs[off+j * 4+i]? =some u)∧RowT H A' c' t.l
theorem RdT.mono {w: World} {H H': PHeap} {L0: List Ent} {A: Option Addr} {c: Nat} {B: List Tm} (h: RdT w H L0 A c B) (hk: Le H H'): RdT w H' L0 A c B:=by
 obtain⟨hl,hg⟩:=h;refine⟨hl,fun hj=>?_⟩;obtain⟨t,b,off,e',cs',fz',A',c',g1,g2,g3,g4,g5⟩:=hg hj;exact⟨t,b,off,e',cs',fz',A',c',g1,g2,g3,g4,g5.mono hk⟩
theorem RdT.of_row {w: World} {H: PHeap} {L: List Ent} {A: Option Addr} {c: Nat} {B: List Tm} (hI: Inv w H L) (h: RowT H A c B): RdT w H L A c B:=by
 refine⟨h.len,fun hj=>?_⟩;obtain⟨t,b,off,e',cs',fz',A',c',g1,g2,g3,g4⟩:=h.get hj;exact⟨t,b,off,e',cs',fz',A',c',g1,g2,hI.ext _ _ g3,g4⟩
theorem RdT.of_own {w: World} {H: PHeap} {L: List Ent} {A: Option Addr} {n c e: Nat} {en: Ent} {xs: List TV} (hI: Inv w H L) (j: Nat) (hj: L[j]? =some en) (hR: Row (.slice A n c) en e 4 n (flat xs)) (hA: AllR H xs) (hm: n≤2513169434916): RdT w H [] A c (xs.map TV.t):=by
 have hn: xs.length=n:=by have:=hR.1;rw [aJ] at this;omega
 subst hn;have hlen:(xs.map TV.t).length=xs.length:=List.length_map _;refine⟨?_,fun {q} hq=>?_⟩
 ·rw [hlen];refine⟨?_,by omega⟩
  rcases hR.2 with ⟨h1,h2,_⟩ |⟨b,cap,cur,h1,h2,h3,_⟩
  ·omega
  ·injection h1 with _ _ hc
   omega
 ·rw [hlen] at hq;obtain⟨x,b,cap,cur,hx,hv,he,hc⟩:=hR.get (j:=q) hq;injection hv with hv1 hv2 hv3
  subst he;refine⟨x.t,b,0,e,cur,(0,0),x.A,x.c,?_,hv1,⟨hI.at_ j hj,dj⟩,hc,hA _ (List.mem_of_getElem? hx)⟩;rw [List.getElem?_map,hx];rfl
theorem RdT.at_ {w0 w: World} {H0 H H': PHeap} {L0 L L1: List Ent} {A: Option Addr} {c: Nat} {B: List Tm} (h: RdT w0 H' L0 A c B) (hS: Step w0 H0 L0 w H L) (hs: ∀ k,dom L1 k→dom L k): RdT w H' L1 A c B:=by
 obtain⟨hl,hg⟩:=h;refine⟨hl,fun hj=>?_⟩;obtain⟨t,b,off,e',cs',fz',A',c',g1,g2,g3,g4⟩:=hg hj;refine⟨t,b,off,e',cs',fz',A',c',g1,g2,⟨hS.keepN g3.1 g3.2,fun hd=>?_⟩,g4⟩
 rcases hS.newL b (hs b hd) with h1 | h1
 ·have:=(Array.getElem?_eq_some_iff.1 g3.1).1;omega
 ·exact g3.2 h1
end Go.Vk
namespace Go.Vk
section
variable {s r: List Tm} {t u: Tm} (hs: isB s=true) (hr: isB r=true) (ht: okT s.length t=true) (hu: okT s.length u=true) (hl: s.length≤r.length) (he:(askU s t u).2=0) (hf:(askU r t u).2=0) (h1:(impD r s).2=true) (h2:(impD r s).1=true)
include hs hr ht hu hl he hf h1 h2
end
section
variable {s: List Tm} {t u: Tm} (hs: isB s=true) (ht: okT s.length t=true) (hu: okT s.length u=true)
include hs ht hu
end
section
variable {s r: List Tm} {t u: Tm} (hs: isB s=true) (hr: isB r=true) (ht: okT s.length t=true) (hu: okT s.length u=true) (hl: s.length≤r.length)
include hs ht hu
include hr hl
omit hr hl
end
end Go.Vk
namespace Go.Vk
open Go.RowKit
def WJ (k: Nat) (ps: List (Tm × Tm)) (B: List Tm) (tr: List Chg):(Bool × Int) ×(List Tm × List Chg):=wlk Prod.fst (bdJ bbS) k ps (B,tr)
theorem wlk_sim {σ τ: Type} {Bof: σ→List Tm} {Bof': τ→List Tm} {bd: σ→Int→Tm→Bool × σ} {bd': τ→Int→Tm→Bool × τ} {R: σ→τ→Prop} (hB: ∀ s t,R s t→Bof s=Bof' t) (hb: ∀ s t v x,R s t→(bd s v x).1=(bd' t v x).1∧R (bd s v x).2 (bd' t v x).2) :
  ∀(k: Nat) (ps: List (Tm × Tm)) (s: σ) (t: τ),R s t→(wlk Bof bd k ps s).1=(wlk Bof' bd' k ps t).1∧R (wlk Bof bd k ps s).2 (wlk Bof' bd' k ps t).2:=by
 intro k
 induction k with
 | zero =>
  intro ps s t h
  cases ps with
  | nil=>exact ⟨rfl,h⟩
  | cons p ps=>exact ⟨rfl,h⟩
 | succ k ih =>
  intro ps s t h
  cases ps with
  | nil=>exact ⟨rfl,h⟩
  | cons p ps =>
   obtain⟨a,b⟩:=p;have e:=hB s t h;simp only [wlk,e]
   split
   ·exact ih _ _ _ h
   ·split
    ·split
     ·exact ih _ _ _ h
     ·have hb':=hb s t (max (follow (Bof' t) a).n (follow (Bof' t) b).n) (.mk 1 (min (follow (Bof' t) a).n (follow (Bof' t) b).n) ⟨#[]⟩ []) h;rw [hb'.1]
      split
      ·exact ih _ _ _ hb'.2
      ·exact⟨rfl,hb'.2⟩
    ·split
     ·have hb':=hb s t (follow (Bof' t) a).n (follow (Bof' t) b) h;rw [hb'.1]
      split
      ·exact ih _ _ _ hb'.2
      ·exact⟨rfl,hb'.2⟩
     ·split
      ·have hb':=hb s t (follow (Bof' t) b).n (follow (Bof' t) a) h;rw [hb'.1]
       split
       ·exact ih _ _ _ hb'.2
       ·exact⟨rfl,hb'.2⟩
      ·split
       ·exact ih _ _ _ h
       ·exact⟨rfl,h⟩
theorem joinQ_S (B: List Tm) (tr: List Chg) (a b: Tm):(joinQ B a b).1=(joinS B tr a b).1∧(joinQ B a b).2.1=(joinS B tr a b).2.1:=
 wlk_sim (R:=fun (s: List Tm × Unit) (t: List Tm × List Chg)=>s.1=t.1) (fun s t h=>h) (fun s t v x h=>by
  unfold bdJ;rw [h]
  split
  ·exact⟨rfl,h⟩
  ·exact⟨rfl,rfl⟩) 20000 [(a,b)] (B,()) (B,tr) Y
structure JS (n: Nat) (B: List Tm) (tr: List Chg) (k: Nat) (qs: List (Tm × Tm)) (ok: Bool) (B': List Tm) (tr': List Chg) (l: Int): Prop where
 g: Gst n B'
 le: l≤k
 t: ok=true→∃ k': Nat,l=(k': Int)∧∀ ps,WJ k (qs++ps) B tr=WJ k' ps B' tr'
 n: ok=false→l < 0→∀ ps,(WJ k (qs++ps) B tr).1=(false,2)
 p: ok=false→0≤l→∀ ps,(WJ k (qs++ps) B tr).1=(false,0)
section
variable {n: Nat} {B: List Tm} {tr: List Chg}
theorem JS.nil (hG: Gst n B) (k: Nat): JS n B tr k [] true B tr k:=⟨hG,Int.le_refl _,fun _=>⟨k,rfl,fun ps=>rfl⟩,fun h=>(by cases h),fun h=>(by cases h)⟩
theorem JS.yes {B': List Tm} {tr': List Chg} {k k': Nat} {qs: List (Tm × Tm)} (hG: Gst n B') (hk: k'≤k) (h: ∀ ps,WJ k (qs++ps) B tr=WJ k' ps B' tr'): JS n B tr k qs true B' tr' k':=
 ⟨hG,by omega,fun _=>⟨k',rfl,h⟩,fun h=>(by cases h),fun h=>(by cases h)⟩
theorem JS.no {B': List Tm} {tr': List Chg} {k k': Nat} {qs: List (Tm × Tm)} (hG: Gst n B') (hk: k'≤k) (h: ∀ ps,(WJ k (qs++ps) B tr).1=(false,0)): JS n B tr k qs false B' tr' k':=
 ⟨hG,by omega,fun h=>(by cases h),fun _ h=>by omega,fun _ _=>h⟩
theorem JS.more {B': List Tm} {tr': List Chg} {k: Nat} {qs rs: List (Tm × Tm)} {l: Int} (h: JS n B tr k qs false B' tr' l): JS n B tr k (qs++rs) false B' tr' l:=
 ⟨h.g,h.le,fun h=>(by cases h),fun h1 h2 ps=>by rw [List.append_assoc];exact h.n h1 h2 _,fun h1 h2 ps=>by rw [List.append_assoc];exact h.p h1 h2 _⟩
section
variable {a b: Tm} {k: Nat} (hG: Gst n B)
include hG
theorem JS.vs (h1: sameV a b=false) (hx:(follow B a).kind=1) (hy:(follow B b).kind=1) (hn:(follow B a).n=(follow B b).n): JS n B tr (k+1) [(a,b)] true B tr k:=
 JS.yes hG (by omega) fun ps=>fI (Bof:=Prod.fst) (bd:=bdJ bbS) (s:=(B,tr)) h1 (by rw [decide_eq_true hx,decide_eq_true hy];rfl) hn
theorem JS.bd {v: Int} {t: Tm} (hb: BC n B v t) (ht: ∀ ps,(bdJ bbS (B,tr) v t).1=true→WJ (k+1) ([(a,b)]++ps) B tr=wlk Prod.fst (bdJ bbS) k ps (bdJ bbS (B,tr) v t).2) (hf: ∀ ps,(bdJ bbS (B,tr) v t).1=false→(WJ (k+1) ([(a,b)]++ps) B tr).1=(false,0)): JS n B tr (k+1) [(a,b)] (bdJ bbS (B,tr) v t).1 (bdJ bbS (B,tr) v t).2.1 (bdJ bbS (B,tr) v t).2.2 k:=by
 have hg: Gst n (bdJ bbS (B,tr) v t).2.1:=fx (s:=(B,tr)) hG hb
 cases h:(bdJ bbS (B,tr) v t).1 with
 | true=>exact JS.yes hg (by omega) fun ps=>ht ps h
 | false=>exact JS.no hg (by omega) fun ps=>hf ps h
theorem JS.vv {v: Int} {t: Tm} (hb: BC n B v t) (h1: sameV a b=false) (hx:(follow B a).kind=1) (hy:(follow B b).kind=1) (hn: ¬(follow B a).n=(follow B b).n) (ev: max (follow B a).n (follow B b).n=v) (et: Tm.mk 1 (min (follow B a).n (follow B b).n) ⟨#[]⟩ []=t): JS n B tr (k+1) [(a,b)] (bdJ bbS (B,tr) v t).1 (bdJ bbS (B,tr) v t).2.1 (bdJ bbS (B,tr) v t).2.2 k:=by
 have h2:(decide ((follow B a).kind=1)&&decide ((follow B b).kind=1))=true:=by rw [decide_eq_true hx,decide_eq_true hy];rfl
 subst ev et;exact JS.bd hG hb (fun ps h=>fD (Bof:=Prod.fst) (bd:=bdJ bbS) (s:=(B,tr)) h1 h2 hn h)
  fun ps h=>by rw [List.cons_append,List.nil_append];unfold WJ;rw [fB (Bof:=Prod.fst) (bd:=bdJ bbS) (s:=(B,tr)) h1 h2 hn h]
end
end
theorem zip_take {xs ys: List Tm} {k: Nat} {x y: Tm} (hx: xs[k]? =some x) (hy: ys[k]? =some y):(xs.zip ys).take (k+1)=(xs.zip ys).take k++ [(x,y)]:=by
 rw [List.take_add_one,(List.getElem?_zip_eq_some (z:=(x,y))).2 ⟨hx,hy⟩];rfl
theorem JS.stop {n: Nat} {B B': List Tm} {tr tr': List Chg} {k i: Nat} {xs ys: List Tm} {x y: Tm} {l: Int} (hx: xs[i]? =some x) (hy: ys[i]? =some y) (h: JS n B tr k ((xs.zip ys).take i++ [(x,y)]) false B' tr' l): JS n B tr k (xs.zip ys) false B' tr' l:=by
 have e: xs.zip ys=((xs.zip ys).take i++ [(x,y)])++(xs.zip ys).drop (i+1):=by
  rw [← zip_take hx hy,List.take_append_drop]
 rw [e];exact h.more
def ci: Chg→Int
 | .add _=> -1
 | .bnd v=>v
def chgI (tr: List Chg): List Int:=(tr.map ci).reverse
def TrZ (T IT UT N pu: Nat) (B: List Tm) (tr: List Chg) (left: Int) (H: PHeap) (L: List Ent): Prop:=
 ∃ A c m xs en A2 c2 bs en2,m=xs.length∧L= [en,en2,(some pu,.cells #[.slice A m c,.slice A2 bs.length c2,.int .i64 left] UT (0,0))]∧Row (.slice A m c) en T 4 m (flat xs)∧AllR H xs∧xs.map TV.t=B∧xs.length≤1000000000∧Row (.slice A2 bs.length c2) en2 IT 1 bs.length (ints bs)∧bs=chgI tr∧((bs.length: Nat): Int)+left≤N
theorem TrZ.mono {T IT UT N pu: Nat} {B: List Tm} {tr: List Chg} {left: Int} {H H': PHeap} {L: List Ent} (h: TrZ T IT UT N pu B tr left H L) (hl: Le H H'): TrZ T IT UT N pu B tr left H' L:=by
 obtain⟨A,c,m,xs,en,A2,c2,bs,en2,h1,h2,h3,h4,h5⟩:=h;exact⟨A,c,m,xs,en,A2,c2,bs,en2,h1,h2,h3,h4.mono hl,h5⟩
theorem TrZ.more {T IT UT N N' pu: Nat} {B: List Tm} {tr: List Chg} {left: Int} {H: PHeap} {L: List Ent} (h: TrZ T IT UT N pu B tr left H L) (hn: N≤N'): TrZ T IT UT N' pu B tr left H L:=by
 obtain⟨A,c,m,xs,en,A2,c2,bs,en2,h1,h2,h3,h4,h5,h6,h7,h9,h8⟩:=h;exact⟨A,c,m,xs,en,A2,c2,bs,en2,h1,h2,h3,h4,h5,h6,h7,h9,by omega⟩
def RZ (SC IT px: Nat) (B: List Tm) (tr: List Chg) (H: PHeap) (L: List Ent): Prop:=
 ∃ A c A2 c2 bs en2,L= [(some px,.cells #[.slice A B.length c,.slice A2 bs.length c2] SC (0,0)),en2]∧RowT H A c B∧Row (.slice A2 bs.length c2) en2 IT 1 bs.length (ints bs)∧bs=chgI tr∧bs.length≤1000000000
theorem RZ.mono {SC IT px: Nat} {B: List Tm} {tr: List Chg} {H H': PHeap} {L: List Ent} (h: RZ SC IT px B tr H L) (hl: Le H H'): RZ SC IT px B tr H' L:=by
 obtain⟨A,c,A2,c2,bs,en2,h1,h2,h3⟩:=h;exact⟨A,c,A2,c2,bs,en2,h1,h2.mono hl,h3⟩
end Go.Vk
namespace Go.Vk
theorem joinw_inv {τ: Type} {n: Nat} {bb: τ→Int→τ} {I: List Tm × τ→Prop} (hI: ∀ s v t,Gst n s.1→BC n s.1 v t→I s→I (s.1.set v.toNat t,bb s.2 v)) :
  ∀(k: Nat) (ps: List (Tm × Tm)) (s: List Tm × τ),Gst n s.1→I s→okP n ps→Gst n (wlk Prod.fst (bdJ bb) k ps s).2.1∧I (wlk Prod.fst (bdJ bb) k ps s).2:=by
 have hb: ∀(s: List Tm × τ) v t,Gst n s.1→BC n s.1 v t→I s→Gst n (bdJ bb s v t).2.1∧I (bdJ bb s v t).2:=fun s v t hG hc h=>⟨fx hG hc,by
  unfold bdJ
  split
  ·exact h
  ·exact hI s v t hG hc h⟩
 intro k
 induction k with
 | zero =>
  intro ps s hG h hok
  cases ps with
  | nil=>exact ⟨hG,h⟩
  | cons p ps=>exact ⟨hG,h⟩
 | succ k ih =>
  intro ps s hG h hok
  cases ps with
  | nil=>exact ⟨hG,h⟩
  | cons p ps =>
   obtain⟨a,b⟩:=p;obtain⟨ha,hb'⟩:=hok.head;have hx:=br hG ha;have hy:=br hG hb';simp only [wlk]
   split
   ·exact ih _ _ hG h hok.tail
   ·split
    ·rename_i h2
     simp only [Bool.and_eq_true,decide_eq_true_eq] at h2
     split
     ·exact ih _ _ hG h hok.tail
     ·rename_i h3
      have h4:=hb _ _ _ hG (BC.mm hG ha hb' h2.1 h2.2 h3) h
      split
      ·exact ih _ _ h4.1 h4.2 hok.tail
      ·exact h4
    ·rename_i h2
     have h2:(decide ((follow s.1 a).kind=1)&&decide ((follow s.1 b).kind=1))=false:=by simpa using h2
     split
     ·rename_i h3
      have h4:=hb _ _ _ hG (BC.x hG ha hb' h3 (fun h=>by rw [h3,h] at h2;cases h2)) h
      split
      ·exact ih _ _ h4.1 h4.2 hok.tail
      ·exact h4
     ·rename_i h3
      split
      ·rename_i h5
       have h4:=hb _ _ _ hG (BC.x hG hb' ha h5 h3) h
       split
       ·exact ih _ _ h4.1 h4.2 hok.tail
       ·exact h4
      ·split
       ·exact ih _ _ hG h (okP.zip hx.1 hy.1 hok.tail)
       ·exact⟨hG,h⟩
theorem open_zero {n: Nat} {B: List Tm} (hG: Gst n B) {v: Int} (h0: 0≤v) (h1: v < n) (ho: opn B v=true): B[v.toNat]? =some Tm.zero:=by
 have hl:=hG.len;have hv: v.toNat < B.length:=by omega
 have e:=List.getElem?_eq_getElem hv;have hk:(B[v.toNat]).kind=0:=by
  unfold opn at ho;rw [getD_some e] at ho;exact of_decide_eq_true ho
 rcases hG.el _ _ e with h | h
 ·rw [e,cL h]
 ·have:=cY h.1;omega
theorem set_back {n: Nat} {B: List Tm} (hG: Gst n B) {v: Int} {t: Tm} (hb: BC n B v t):(B.set v.toNat t).set v.toNat Tm.zero=B:=by
 rw [List.set_set];have e:=open_zero hG hb.lo hb.hi hb.op;obtain⟨h1,h2⟩:=List.getElem?_eq_some_iff.1 e;rw [← h2];exact List.set_getElem_self h1
theorem bC {B: List Tm} {tr: List Chg} {m: Nat} (h: tr.length≤m): undoS B tr m=(B,tr):=undoS_stop h
def HG: List Tm→List Chg→Prop
 | B, []=>Gst B.length B
 | B,.add n::tr=>Gst B.length B∧B.length=n+1∧HG (B.take n) tr
 | B,.bnd v::tr=>Gst B.length B∧(0≤v∧v < B.length)∧HG (B.set v.toNat Tm.zero) tr
theorem HG.g {B: List Tm} {tr: List Chg} (h: HG B tr): Gst B.length B:=by
 cases tr with
 | nil=>exact h
 | cons x tr=>cases x <;> exact h.1
theorem HG.bind {B: List Tm} {tr: List Chg} (h: HG B tr) {v: Int} {t: Tm} (hb: BC B.length B v t): HG (B.set v.toNat t) (bbS tr v):=by
 have hG:=h.g;have hs:=Gst.set hG hb;refine⟨by rw [List.length_set];exact hs,⟨hb.lo,by rw [List.length_set];exact hb.hi⟩,?_⟩;rw [set_back hG hb];exact h
theorem HG.undo: ∀ {tr: List Chg} {B: List Tm},HG B tr→∀ m,HG (undoS B tr m).1 (undoS B tr m).2:=by
 intro tr
 induction tr with
 | nil=>intro B h m;exact h
 | cons x tr ih =>
  intro B h m
  by_cases hm: m < tr.length+1
  ·rw [bD hm]
   cases x with
   | add n=>exact ih h.2.2 m
   | bnd v=>exact ih h.2.2 m
  ·rw [bC (by rw [List.length_cons];omega)];exact h
theorem join_hist {B: List Tm} {tr: List Chg} (h: HG B tr) {a b: Tm} (ha: okT B.length a=true) (hb: okT B.length b=true) :
  HG (joinS B tr a b).2.1 (joinS B tr a b).2.2∧undoS (joinS B tr a b).2.1 (joinS B tr a b).2.2 tr.length=(B,tr)∧(joinS B tr a b).2.1.length=B.length∧(joinS B tr a b).2.2.length+opnC (joinS B tr a b).2.1≤tr.length+opnC B:=by
 have hj:=joinw_inv (n:=B.length) (bb:=bbS) (I:=fun s=>s.1.length=B.length∧HG s.1 s.2∧undoS s.1 s.2 tr.length=(B,tr)∧tr.length≤s.2.length∧s.2.length+opnC s.1≤tr.length+opnC B) (fun s v t hG hc ⟨h1,h2,h3,h4,h5⟩=>by
  refine⟨by rw [List.length_set];exact h1,h2.bind (by rw [h1];exact hc),?_,?_,?_⟩
  ·show undoS (s.1.set v.toNat t) (.bnd v::s.2) tr.length=_
   rw [bD (by omega),undo1,set_back hG hc];exact h3
  ·show tr.length≤(Chg.bnd v::s.2).length
   rw [List.length_cons];omega
  ·show (Chg.bnd v::s.2).length+_≤_
   have e:=open_zero hG hc.lo hc.hi hc.op;have:=eC s.1 v.toNat t Tm.zero e Y (by have:=cY hc.ok;omega);rw [List.length_cons]
   show _+opnC (s.1.set v.toNat t)≤_
   omega) 20000 [(a,b)] (B,tr) h.g ⟨rfl,h,bC (Nat.le_refl _),Nat.le_refl _,Nat.le_refl _⟩ (fun p hp=>by rw [List.mem_singleton.1 hp];exact⟨ha,hb⟩)
 obtain⟨_,h1,h2,h3,h4,h5⟩:=hj;exact⟨h2,h3,h1,h5⟩
end Go.Vk
namespace Go.Vk
open Go.RowKit
def RV (v: Value): Option (DataW Value × List MemPlace):=some (.held v, [])
def AtF (D: DataW Value) (f: Int→Option Value): Prop:= ∀ q z,D.atKey (.int .i64 q) z=match f q with
 | some v=>.held v
 | none=>z
def MapV (P: Program) (k: TypeId) (en: Ent) (b n: Nat) (f: Int→Option Value): Prop:=
 ∃ o D,en=(some b,o)∧(∀ W: World,W.heap[b]? =some o→W.ownsMap P k RV b n D)∧Maps.IsMap D∧AtF D f
def RangeV (P: Program) (k: TypeId) (em er: Ent) (b r n: Nat) (f: Int→Option Value) (left: Int→Bool) (cnt: Nat): Prop:=
 ∃ o o' D lf,em=(some b,o)∧er=(some r,o')∧(∀ W: World,W.heap[b]? =some o→W.heap[r]? =some o'→W.ranges P k RV b r n D lf cnt)∧Maps.IsMap D∧AtF D f∧∀ q,lf (.int .i64 q)=left q
def putF (f: Int→Option Value) (q: Int) (v: Value): Int→Option Value:=fun x=>if x=q then some v else f x
def delF (f: Int→Option Value) (q: Int): Int→Option Value:=fun x=>if x=q then none else f x
theorem AtF.put {D: DataW Value} {f: Int→Option Value} (hD: Maps.IsMap D) (h: AtF D f) (q: Int) (v: Value): AtF (D.put (.int .i64 q) (.held v)) (putF f q v):=by
 intro x z;unfold putF
 by_cases hx: x=q
 ·subst hx;rw [Maps.atKey_put_same hD (by simp [WideAt.IsKeyLit]),if_pos Y]
 ·rw [Maps.atKey_put_other (fun e=>hx (by injection e)),h,if_neg hx]
theorem AtF.del {D: DataW Value} {f: Int→Option Value} (h: AtF D f) (q: Int): AtF (D.del (.int .i64 q)) (delF f q):=by
 intro x z;unfold delF
 by_cases hx: x=q
 ·subst hx;rw [Maps.atKey_del_same,if_pos Y]
 ·rw [Maps.atKey_del_other (fun e=>hx (by injection e)),h,if_neg hx]
theorem AtF.has {D: DataW Value} {f: Int→Option Value} (h: AtF D f) (q: Int): Maps.has D (.int .i64 q)=(f q).isSome:=by
 cases hf: f q with
 | none=>exact Maps.has_false_of_atKey fun z=>by rw [h,hf]
 | some v=>exact Maps.has_true_of_atKey fun z=>by rw [h,hf]
section
variable {P: Program} {K: Act→World→Prop} {Q: Exit→Act→World→Prop} {a: Act} {w: World} {N: Nat} {m: Env} {D: List Deferred} {d: Nat} {ty: TypeId} {pos: String} {aft: Array Edge} {g: Option (Nat × Bool)}
variable {w0: World} {H0 H: PHeap} {L0 L: List Ent}
theorem o_makeMapV {t: TypeId} {k: TypeId} (hS: Step w0 H0 L0 w H L) (ha: Has D a N m) (hd: Nat.blt d N=true)
  (kk: ∀ b en a' w',MapV P k en b 0 (fun _=>none)→Step w0 H0 L0 w' H (en::L)→Has D a' N ((d,.map (some b))::m)→K a' w') :
  Oper.wp P ⟨some d,.makeMap t none,ty,pos,aft,g⟩ a w K Q:=by
 refine aT (v:=.map (some w.heap.size)) (w':=w.alloc (.map #[] 0)) Y ha hd fun a' h=>kk w.heap.size _ a' _ ?_ (hS.alloc (.map #[] 0)) h;refine⟨.map #[] 0,.map [],rfl,fun W hW=>?_,Maps.isMap_empty,fun q z=>rfl⟩;obtain⟨es,clock,hb,F,hs,hD⟩:=World.ownsMap_made w P k RV;have hb':=heap_alloc_new w (.map #[] 0);rw [hb'] at hb;injection hb with hb
 injection hb with h1 h2
 subst h1 h2;exact⟨_,_,hW,F,hs,hD⟩
theorem eR {k b n: Nat} {Dm: DataW Value} (h: w.ownsMap P k RV b n Dm): ∃ es clock,w.heap[b]? =some (.map es clock)∧∀ W: World,W.heap[b]? =some (.map es clock)→W.ownsMap P k RV b n Dm:=by
 obtain⟨es,clock,hb,F,hs,hD⟩:=h;exact⟨es,clock,hb,fun W hW=>⟨es,clock,hW,F,hs,hD⟩⟩
theorem dx {k b r n cnt: Nat} {Dm: DataW Value} {lf: Lit→Bool} (h: w.ranges P k RV b r n Dm lf cnt): ∃ es clock o',w.heap[b]? =some (.map es clock)∧w.heap[r]? =some o'∧∀ W: World,W.heap[b]? =some (.map es clock)→W.heap[r]? =some o'→W.ranges P k RV b r n Dm lf cnt:=by
 obtain⟨es,clock,since,seen,c0,hb,F,hs,hD,hr,rest⟩:=h;exact⟨es,clock,_,hb,hr,fun W hW hW'=>⟨es,clock,since,seen,c0,hW,F,hs,hD,hW',rest⟩⟩
theorem o_mapUpdV {x y z: Operand} {t k e b n: Nat} {f: Int→Option Value} {q: Int} {v: Value} {en: Ent} (ht: P.underlying t=some (.map k e)) (hk: P.underlying k=some (.int .i64)) (hS: Step w0 H0 L0 w H (en::L)) (hM: MapV P k en b n f) (ha: Has D a N m) (hx: ev m x=some (.map (some b))) (hy: ev m y=some (.int .i64 q)) (hz: ev m z=some v) (hq: -9223372036854775808≤q∧q≤9223372036854775807) (hn: n < maxLen)
  (kk: ∀ en' a' w',MapV P k en' b (n+1) (putF f q v)→Step w0 H0 L0 w' H (en'::L)→Has D a' N m→K a' w') :
  Oper.wp P ⟨none,.mapUpdate t x y z,ty,pos,aft,g⟩ a w K Q:=by
 obtain⟨o,Dm,rfl,hown,hmap,hat⟩:=hM;have hb: w.heap[b]? =some o:=hS.inv.at_ 0 rfl;obtain⟨w',hrun,hown',hgr⟩:=(hown w hb).update (Maps.int_keyed hk) ht hn (Maps.keyOf_int_mk hk (eD hq)) (show RV v=some (.held v, []) from rfl);obtain⟨es,clock,hb',hany⟩:=eR hown';have hS':=hS.regrow (o:=.map es clock) hgr hb' (.inl Y);unfold Oper.wp;simp [execOp,ha.ev hx,ha.ev hy,ha.ev hz,hrun];exact kk _ _ _ ⟨_,_,rfl,hany,hmap.put _ _,hat.put hmap q v⟩ hS' (ha.put_none _)
theorem o_lookupV {x y: Operand} {t k e b n i: Nat} {f: Int→Option Value} {q: Int} {en: Ent} {de: TypeDesc} {sz bytes: Nat} {z: Value} (ht: P.underlying t=some (.map k e)) (hk: P.underlying k=some (.int .i64)) (T: Ty P e de sz bytes z) (hS: Step w0 H0 L0 w H L) (hi: L[i]? =some en) (hM: MapV P k en b n f) (ha: Has D a N m) (hx: ev m x=some (.map (some b))) (hy: ev m y=some (.int .i64 q)) (hq: -9223372036854775808≤q∧q≤9223372036854775807) (hd: Nat.blt d N=true)
  (kk: ∀ a',Has D a' N ((d,.tuple #[(f q).getD z,.bool (f q).isSome])::m)→K a' w) :
  Oper.wp P ⟨some d,.lookup t x y true,ty,pos,aft,g⟩ a w K Q:=by
 obtain⟨o,Dm,rfl,hown,hmap,hat⟩:=hM;have hb: w.heap[b]? =some o:=hS.inv.at_ i hi;obtain⟨v,ps,hrun,hv⟩:=(hown w hb).look_ok (Maps.int_keyed hk) ht (T.run_zero w) (show RV z=some (.held z, []) from rfl) (Maps.keyOf_int_mk hk (eD hq));rw [hat.has] at hrun;rw [hat] at hv;have hv': v=(f q).getD z:=by
  unfold RV at hv
  cases hf: f q with
  | none=>rw [hf] at hv;simp at hv;simp [hv.1]
  | some u=>rw [hf] at hv;simp at hv;simp [hv.1]
 subst hv';refine aT ?_ ha hd kk;simp [execOp,ha.ev hx,ha.ev hy,hrun]
theorem o_lookupS {x y: Operand} {t k e b n i: Nat} {f: Int→Option Value} {q: Int} {en: Ent} {de: TypeDesc} {sz bytes: Nat} {z v: Value} (ht: P.underlying t=some (.map k e)) (hk: P.underlying k=some (.int .i64)) (T: Ty P e de sz bytes z) (hS: Step w0 H0 L0 w H L) (hi: L[i]? =some en) (hM: MapV P k en b n f) (ha: Has D a N m) (hx: ev m x=some (.map (some b))) (hy: ev m y=some (.int .i64 q)) (hq: -9223372036854775808≤q∧q≤9223372036854775807) (hf: f q=some v) (hd: Nat.blt d N=true)
  (kk: ∀ a',Has D a' N ((d,.tuple #[v,.bool true])::m)→K a' w) :
  Oper.wp P ⟨some d,.lookup t x y true,ty,pos,aft,g⟩ a w K Q:=
 o_lookupV ht hk T hS hi hM ha hx hy hq hd fun a' h=>kk a' (by rw [hf] at h;exact h)
theorem o_lookupN {x y: Operand} {t k e b n i: Nat} {f: Int→Option Value} {q: Int} {en: Ent} {de: TypeDesc} {sz bytes: Nat} {z: Value} (ht: P.underlying t=some (.map k e)) (hk: P.underlying k=some (.int .i64)) (T: Ty P e de sz bytes z) (hS: Step w0 H0 L0 w H L) (hi: L[i]? =some en) (hM: MapV P k en b n f) (ha: Has D a N m) (hx: ev m x=some (.map (some b))) (hy: ev m y=some (.int .i64 q)) (hq: -9223372036854775808≤q∧q≤9223372036854775807) (hf: f q=none) (hd: Nat.blt d N=true)
  (kk: ∀ a',Has D a' N ((d,.tuple #[z,.bool false])::m)→K a' w) :
  Oper.wp P ⟨some d,.lookup t x y true,ty,pos,aft,g⟩ a w K Q:=
 o_lookupV ht hk T hS hi hM ha hx hy hq hd fun a' h=>kk a' (by rw [hf] at h;exact h)
theorem o_insertV {x y z: Operand} {t k e b n: Nat} {f: Int→Option Value} {q: Int} {v: Value} {en: Ent} (ht: P.underlying t=some (.map k e)) (hk: P.underlying k=some (.int .i64)) (hS: Step w0 H0 L0 w H (en::L)) (hM: MapV P k en b n f) (ha: Has D a N m) (hx: ev m x=some (.map (some b))) (hy: ev m y=some (.int .i64 q)) (hz: ev m z=some v) (hq: -9223372036854775808≤q∧q≤9223372036854775807) (hn: n < maxLen)
  (kk: ∀ en' a' w',MapV P k en' b (n+1) (putF f q v)→Step w0 H0 L0 w' H (en'::L)→Has D a' N m→K a' w') :
  Oper.wp P ⟨none,.insert t x y z,ty,pos,aft,g⟩ a w K Q:=o_mapUpdV (ty:=ty) (pos:=pos) (aft:=aft) (g:=g) ht hk hS hM ha hx hy hz hq hn kk
theorem o_rangeV {x: Operand} {t k e b n i: Nat} {f: Int→Option Value} {en: Ent} (ht: P.underlying t=some (.map k e)) (hk: P.underlying k=some (.int .i64)) (hS: Step w0 H0 L0 w H L) (hi: L[i]? =some en) (hM: MapV P k en b n f) (ha: Has D a N m) (hx: ev m x=some (.map (some b))) (hd: Nat.blt d N=true)
  (kk: ∀ r cnt er a' w',RangeV P k en er b r n f (fun q=>(f q).isSome) cnt→Step w0 H0 L0 w' H (er::L)→Has D a' N ((d,.pointer (some ⟨r,0,none⟩))::m)→K a' w') :
  Oper.wp P ⟨some d,.range t x,ty,pos,aft,g⟩ a w K Q:=by
 obtain⟨o,Dm,rfl,hown,hmap,hat⟩:=hM;have hb: w.heap[b]? =some o:=hS.inv.at_ i hi;obtain⟨es,clock,hb2,hany⟩:=eR (hown w hb);obtain⟨w',hrun,hrg, -, -⟩:=(hown w hb).range (Maps.int_keyed hk) ht;rw [run_range_map w t k e b es clock ht hb2] at hrun;injection hrun with h1 h2
 subst h2;have hS':=hS.alloc (.mapIter (some b) clock #[] clock);obtain⟨es3,clock3,o',hb3,hr3,hany3⟩:=dx hrg;have hb4:(w.alloc (.mapIter (some b) clock #[] clock)).heap[b]? =some o:=hS'.inv.at_ (i+1) (by simpa using hi);have hr4:=heap_alloc_new w (.mapIter (some b) clock #[] clock);rw [hb4] at hb3;rw [hr4] at hr3;injection hb3 with hb3
 injection hr3 with hr3
 subst hb3 hr3;refine aT (v:=.pointer (some ⟨w.heap.size,0,none⟩)) (w':=w.alloc (.mapIter (some b) clock #[] clock)) ?_ ha hd fun a' h=>kk w.heap.size _ _ a' _ ⟨_,_,Dm,_,rfl,rfl,hany3,hmap,hat,fun q=>hat.has q⟩ hS' h;simp [execOp,ha.ev hx,run_range_map w t k e b es clock ht hb2]
theorem o_nextV {x: Operand} {k b r n cnt: Nat} {f: Int→Option Value} {left: Int→Bool} {em er: Ent} (hk: P.underlying k=some (.int .i64)) (hS: Step w0 H0 L0 w H (er::em::L)) (hM: RangeV P k em er b r n f left cnt) (ha: Has D a N m) (hx: ev m x=some (.pointer (some ⟨r,0,none⟩))) (hd: Nat.blt d N=true)
  (k0:(∀ q,left q=false)→∀ a',Has D a' N ((d,.tuple #[.bool false])::m)→K a' w)
  (k1: ∀ q v cnt' er' a' w',left q=true→(-9223372036854775808≤q∧q≤9223372036854775807)→cnt' < cnt→RangeV P k em er' b r n f (fun x=>left x&&!decide (x=q)) cnt'→Step w0 H0 L0 w' H (er'::em::L)→(Instr.entry (.pointer (some ⟨r,0,none⟩))).run P w'=.ok (.tuple #[.int .i64 q,v]) w'→Has D a' N ((d,.tuple #[.bool true,.int .i64 q,v])::m)→K a' w') :
  Oper.wp P ⟨some d,.next x false,ty,pos,aft,g⟩ a w K Q:=by
 obtain⟨o,o',Dm,lf,rfl,rfl,hown,hmap,hat,hlf⟩:=hM;have hb: w.heap[b]? =some o:=hS.inv.at_ 1 rfl;have hr: w.heap[r]? =some o':=hS.inv.at_ 0 rfl
 rcases (hown w hb hr).next (Maps.int_keyed hk) ty with ⟨_,hl,hrun⟩ |⟨key,v,kl,y,w',cnt',hkey,hlk,hv,hat',hrun,hrg,hlt,hgr,hsz,hen⟩
 ·refine aT (v:=.tuple #[.bool false]) (w':=w) ?_ ha hd fun a' h=>k0 (fun q=>by rw [← hlf];exact hl _) a' h;simp [execOp,ha.ev hx,hrun]
 ·obtain⟨q,rfl,rfl,hwf⟩:=Maps.keyOf_int_inv hk hkey;obtain⟨es3,clock3,o3,hb3,hr3,hany3⟩:=dx hrg;have hS':=hS.regrow (o:=o3) hgr hr3 (.inl Y);have hb4: w'.heap[b]? =some o:=hS'.inv.at_ 1 rfl;rw [hb4] at hb3;injection hb3 with hb3
  subst hb3;have hq: -9223372036854775808≤q∧q≤9223372036854775807:=by
   have h1: IntKind.i64.min= -9223372036854775808:=by decide
   have h2: IntKind.i64.max=9223372036854775807:=by decide
   simp [Lit.wf,h1,h2] at hwf;omega
  refine aT (v:=.tuple #[.bool true,.int .i64 q,v]) (w':=w') ?_ ha hd fun a' h=>k1 q v cnt' _ a' w' (by rw [← hlf];exact hlk) hq hlt ⟨_,_,Dm,_,rfl,rfl,hany3,hmap,hat,fun x=>?_⟩ hS' hen h
  ·simp [execOp,ha.ev hx,hrun]
  ·show (lf (.int .i64 x)&&!(Lit.int .i64 x).sameKey (.int .i64 q))=_
   rw [hlf]
   congr 2
   by_cases hx: x=q
   ·subst hx;rw [WideAt.sameKey_self (by simp [WideAt.IsKeyLit])];simp
   ·rw [Maps.sameKey_ne (fun e=>hx (by injection e))];simp [hx]
theorem o_entryV {x: Operand} {r: Nat} {v: Value} (hen:(Instr.entry (.pointer (some ⟨r,0,none⟩))).run P w=.ok v w) (ha: Has D a N m) (hx: ev m x=some (.pointer (some ⟨r,0,none⟩))) (hd: Nat.blt d N=true) (kk: ∀ a',Has D a' N ((d,v)::m)→K a' w) :
  Oper.wp P ⟨some d,.entry x,ty,pos,aft,g⟩ a w K Q:=
 aT (by simp [execOp,ha.ev hx,hen]) ha hd kk
theorem o_deleteV {x y: Operand} {t k e b r n cnt: Nat} {f: Int→Option Value} {left: Int→Bool} {q: Int} {em er: Ent} (ht: P.underlying t=some (.map k e)) (hk: P.underlying k=some (.int .i64)) (hS: Step w0 H0 L0 w H (em::er::L)) (hM: RangeV P k em er b r n f left cnt) (ha: Has D a N m) (hx: ev m x=some (.map (some b))) (hy: ev m y=some (.int .i64 q)) (hq: -9223372036854775808≤q∧q≤9223372036854775807)
  (kk: ∀ em' cnt' a' w',cnt'≤cnt→RangeV P k em' er b r n (delF f q) (fun x=>left x&&!decide (x=q)) cnt'→Step w0 H0 L0 w' H (em'::er::L)→Has D a' N m→K a' w') :
  Oper.wp P ⟨none,.call { callee:=.builtin .delete,args:= #[x,y],argTypes:= #[t,k] },ty,pos,aft,g⟩ a w K Q:=by
 obtain⟨o,o',Dm,lf,rfl,rfl,hown,hmap,hat,hlf⟩:=hM;have hb: w.heap[b]? =some o:=hS.inv.at_ 0 rfl;have hr: w.heap[r]? =some o':=hS.inv.at_ 1 rfl;obtain⟨w',cnt',hrun,hrg,hle,hturn⟩:=(hown w hb hr).drop (Maps.int_keyed hk) ht (Maps.keyOf_int_mk hk (eD hq)) ty;obtain⟨es3,clock3,o3,hb3,hr3,hany3⟩:=dx hrg;have hS':=hS.regrow (o:=.map es3 clock3) hturn.grown hb3 (.inl Y);have hr4: w'.heap[r]? =some o':=hS'.inv.at_ 1 rfl;rw [hr4] at hr3;injection hr3 with hr3
 subst hr3;refine o_runN (v:=.tuple #[]) (w':=w') ?_ ha fun a' h=>kk _ cnt' a' w' hle ⟨_,_,_,_,rfl,rfl,hany3,hmap.del _,hat.del q,fun x=>?_⟩ hS' h
 ·simp [execOp,resolve,invoke,builtin,ha.ev hx,ha.ev hy,hrun]
 ·show (lf (.int .i64 x)&&!(Lit.int .i64 x).sameKey (.int .i64 q))=_
  rw [hlf]
  congr 2
  by_cases hx: x=q
  ·subst hx;rw [WideAt.sameKey_self (by simp [WideAt.IsKeyLit])];simp
  ·rw [Maps.sameKey_ne (fun e=>hx (by injection e))];simp [hx]
theorem seq_join {c1 c2: Code} (I: Act→World→Prop) (h1: c1.wp P (Exit.then I Q) a w) (h2: ∀ a w,I a w→c2.wp P Q a w):(Code.seq c1 c2).wp P Q a w:=
 wp_seq (wp_mono h1 fun e a w h=>by cases e with
  | normal=>exact h2 a w h
  | _=>exact h)
theorem RangeV.map {k b r n cnt: Nat} {f: Int→Option Value} {left: Int→Bool} {em er: Ent} (hI: Inv w H L) {i j: Nat} (hi: L[i]? =some em) (hj: L[j]? =some er) (h: RangeV P k em er b r n f left cnt): MapV P k em b n f:=by
 obtain⟨o,o',Dm,lf,rfl,rfl,hown,hmap,hat,hlf⟩:=h;have hb: w.heap[b]? =some o:=hI.at_ i hi;have hr: w.heap[r]? =some o':=hI.at_ j hj;have h1:=(hown w hb hr).owns;obtain⟨es,clock,hb2,hany⟩:=eR h1;rw [hb] at hb2;injection hb2 with hb2
 subst hb2;exact⟨_,_,rfl,hany,hmap,hat⟩
end
end Go.Vk
namespace Go.Vk
open Go.RowKit
theorem HG.wt: ∀ {tr: List Chg} {B: List Tm},HG B tr→WfT B.length tr:=by
 intro tr
 induction tr with
 | nil=>intro B h;exact trivial
 | cons x tr ih =>
  intro B h
  cases x with
  | add n =>
   have h2:=h.2.1;have:=ih h.2.2;rw [List.length_take,Nat.min_eq_left (by omega)] at this;exact⟨by omega,this⟩
  | bnd v =>
   have:=ih h.2.2;rw [List.length_set] at this;exact⟨h.2.1,this⟩
theorem HG.gs {B: List Tm} {tr: List Chg} (h: HG B tr) (hb: tr.length+opnC B≤800000000): GS B.length B tr:=⟨rfl,HG.wt h,hb⟩
theorem Acyc.sub {B C: List Tm} (h: ∀(i: Nat) (t: Tm),C[i]? =some t→t.kind≠0→B[i]? =some t) (hA: Acyc B): Acyc C:=by
 obtain⟨rk,hr⟩:=hA;exact⟨rk,fun i t hi hk=>hr i t (h i t hi hk) hk⟩
theorem Acyc.undo1 {B: List Tm} (hA: Acyc B) (x: Chg): Acyc (undo1 B x):=by
 refine Acyc.sub (fun i t hi hk=>?_) hA
 cases x with
 | add n =>
  simp only [Vk.undo1] at hi;rw [List.getElem?_take] at hi
  split at hi
  ·exact hi
  ·cases hi
 | bnd v =>
  simp only [Vk.undo1] at hi;rw [List.getElem?_set] at hi
  split at hi
  ·split at hi
   ·obtain rfl:=Option.some.inj hi;exact absurd Y hk
   ·cases hi
  ·exact hi
theorem Acyc.undoS: ∀ {tr: List Chg} {B: List Tm},Acyc B→∀ m,Acyc (undoS B tr m).1:=by
 intro tr
 induction tr with
 | nil=>intro B h m;exact h
 | cons x tr ih =>
  intro B h m
  by_cases hm: m < tr.length+1
  ·rw [bD hm];exact ih (h.undo1 x) m
  ·rw [bC (by rw [List.length_cons];omega)];exact h
theorem dV: ∀ {tr: List Chg} {B: List Tm} {m: Nat},m≤tr.length→(undoS B tr m).2.length=m:=by
 intro tr
 induction tr with
 | nil=>intro B m h;exact(Nat.le_zero.1 h).symm
 | cons x tr ih =>
  intro B m h;rw [List.length_cons] at h
  by_cases hm: m < tr.length+1
  ·rw [bD hm];exact ih (by omega)
  ·rw [bC (by rw [List.length_cons];omega),List.length_cons];omega
theorem undoS_twice: ∀ {tr: List Chg} {B: List Tm} {m k: Nat},k≤m→undoS (undoS B tr m).1 (undoS B tr m).2 k=undoS B tr k:=by
 intro tr
 induction tr with
 | nil=>intro B m k h;rfl
 | cons x tr ih =>
  intro B m k h
  by_cases hm: m < tr.length+1
  ·rw [bD hm,bD (by omega: k < tr.length+1)];exact ih h
  ·rw [bC (m:=m) (tr:=x::tr) (by rw [List.length_cons];omega)]
def Back (B: List Tm) (tr: List Chg) (B': List Tm) (tr': List Chg): Prop:=tr.length≤tr'.length∧undoS B' tr' tr.length=(B,tr)
theorem Back.at_ {B B': List Tm} {tr tr': List Chg} (h: Back B tr B' tr') {m: Nat} (hm: m≤tr.length): undoS B' tr' m=undoS B tr m:=by
 rw [← undoS_twice (tr:=tr') (B:=B') hm,h.2]
theorem Back.rfl' {B: List Tm} {tr: List Chg}: Back B tr B tr:=⟨Nat.le_refl _,bC (Nat.le_refl _)⟩
structure HA (B: List Tm) (tr: List Chg): Prop where
 h: HG B tr
 a: Acyc B
theorem HA.is {B: List Tm} {tr: List Chg} (h: HA B tr): isB B=true:=isB_of h.h.g h.a
structure Goes (B: List Tm) (tr: List Chg) (s: List Tm × List Chg): Prop where
 ha: HA s.1 s.2
 back: Back B tr s.1 s.2
 bud: s.2.length+opnC s.1≤tr.length+opnC B+2
 mark: s.2.length≤tr.length+s.1.length+1
theorem dH {B: List Tm} {tr: List Chg} (h: HA B tr): Goes B tr (B,tr):=⟨h,Back.rfl',Nat.le_add_right _ _,by show tr.length≤tr.length+B.length+1;omega⟩
theorem goes_var {B: List Tm} {tr: List Chg} (h: HA B tr): Goes B tr (sVar B tr).1:=by
 unfold sVar
 split
 ·exact dH h
 ·rename_i hl
  have hG:=h.h.g;have he: Gst (B.length+(1: Int).toNat) (extS B 1):=hG.ext (by show B.length+1≤100000;omega);have e: extS B 1=B++ [Tm.zero]:=rfl;have hu: undoS (B++ [Tm.zero]) (.add B.length::tr) tr.length=(B,tr):=by
   rw [bD (by omega),undo1,List.take_left];exact bC (Nat.le_refl _)
  refine⟨⟨⟨by rw [List.length_append];exact he,by rw [List.length_append];rfl,by rw [List.take_left];exact h.h⟩,Acyc.sub (fun i t hi hk=>?_) h.a⟩,⟨?_,hu⟩,?_,?_⟩
  ·have hi:(B++ [Tm.zero])[i]? =some t:=hi;rw [List.getElem?_append] at hi
   split at hi
   ·exact hi
   ·rw [List.getElem?_cons] at hi
    split at hi
    ·obtain rfl:=Option.some.inj hi;exact absurd Y hk
    ·simp at hi
  ·show tr.length≤(Chg.add B.length::tr).length
   rw [List.length_cons];omega
  ·show (Chg.add B.length::tr).length+opnC (B++ [Tm.zero])≤_
   unfold opnC;rw [List.countP_append,List.length_cons];have:([Tm.zero]: List Tm).countP (fun t=>decide (t.kind=0))≤1:=List.countP_le_length;omega
  ·show (Chg.add B.length::tr).length≤tr.length+(B++ [Tm.zero]).length+1
   rw [List.length_cons];omega
theorem sUni_eq {B: List Tm} {tr: List Chg} {a b: Tm} (h: HG B tr): sUni B tr a b=if (okT B.length a&&okT B.length b)=true then ((if (joinS B tr a b).1.1=true then (joinS B tr a b).2 else (B,tr)),(joinS B tr a b).1) else ((B,tr),(false,3)):=by
 unfold sUni;rw [show ([a,b]: List Tm).all (okT B.length)=(okT B.length a&&okT B.length b) by simp]
 split
 ·rename_i h1
  rw [Bool.and_eq_true] at h1;rw [(join_hist h h1.1 h1.2).2.1]
 ·rfl
theorem goes_uni {B: List Tm} {tr: List Chg} {a b: Tm} (h: HA B tr): Goes B tr (sUni B tr a b).1:=by
 rw [sUni_eq h.h]
 split
 ·rename_i h1
  rw [Bool.and_eq_true] at h1;obtain⟨h2,h3,h4,h5⟩:=join_hist h.h h1.1 h1.2
  show Goes B tr (if _ then _ else _)
  split
  ·have hJ: JW B.length B [(a,b)] (joinS B tr a b):=joinw_sound (bb:=bbS) 20000 [(a,b)] (B,tr) h.h.g h.a fun p hp=>by rw [List.mem_singleton.1 hp];exact⟨h1.1,h1.2⟩
   have h6:=opnC_le B;refine⟨⟨h2,hJ.a⟩,⟨?_,h3⟩,by omega,by omega⟩
   by_cases hl: tr.length≤(joinS B tr a b).2.2.length
   ·exact hl
   ·rw [bC (by omega)] at h3;have:=congrArg (fun p=>p.2.length) h3;simp only at this;omega
  ·exact dH h
 ·exact dH h
theorem dC {B: List Tm} {tr: List Chg} {m: Int} (h: ¬(decide (m < 0)||decide (((tr.length: Nat): Int) < m))=true): sBack B tr m=(undoS B tr m.toNat,0)∧0≤m∧m≤tr.length:=by
 refine⟨by unfold sBack;rw [if_neg h],?_⟩;have h:(decide (m < 0)||decide (((tr.length: Nat): Int) < m))=false:=by simpa using h
 rw [Bool.or_eq_false_iff,decide_eq_false_iff_not,decide_eq_false_iff_not] at h;omega
theorem eq {B: List Tm} {tr: List Chg} {m: Int} (h:(decide (m < 0)||decide (((tr.length: Nat): Int) < m))=true): sBack B tr m=((B,tr),1):=by unfold sBack;rw [if_pos h]
theorem back_iff {B: List Tm} {tr: List Chg} {m: Int}:(sBack B tr m).2=0↔0≤m∧m≤tr.length:=by
 by_cases h:(decide (m < 0)||decide (((tr.length: Nat): Int) < m))=true
 ·rw [eq h];rw [Bool.or_eq_true,decide_eq_true_eq,decide_eq_true_eq] at h;exact⟨fun h=>(by cases h),fun h=>(by omega)⟩
 ·exact⟨fun _=>(dC (B:=B) h).2,fun _=>by rw [(dC h).1]⟩
theorem back_dec {B: List Tm} {tr: List Chg} {m: Int}: decide ((sBack B tr m).2=0)=(decide (0≤m)&&decide (m≤((tr.length: Nat): Int))):=by
 rw [decide_eq_decide.2 (back_iff (B:=B) (tr:=tr) (m:=m)),Bool.decide_and]
theorem back_err {B: List Tm} {tr: List Chg} {m: Int} (h: ¬(sBack B tr m).2=0):(sBack B tr m).1=(B,tr):=by
 by_cases hm:(decide (m < 0)||decide (((tr.length: Nat): Int) < m))=true
 ·rw [eq hm]
 ·exact absurd (by rw [(dC (B:=B) hm).1]) h
theorem ej {B: List Tm} {tr: List Chg} {m: Int} (h:(sBack B tr m).2=0):(sBack B tr m).1=undoS B tr m.toNat∧0≤m∧m≤tr.length:=by
 by_cases hm:(decide (m < 0)||decide (((tr.length: Nat): Int) < m))=true
 ·rw [eq hm] at h;cases h
 ·have h2:=dC (B:=B) hm;exact⟨by rw [h2.1],h2.2⟩
theorem back_mark {B: List Tm} {tr: List Chg} {m: Int} (h:(sBack B tr m).2=0):(((sBack B tr m).1.2.length: Nat): Int)=m:=by
 obtain⟨e,h0,h1⟩:=ej h;rw [e,dV (by omega)];omega
theorem undoS_bud: ∀ {tr: List Chg} {B: List Tm} (m: Nat),(undoS B tr m).2.length+opnC (undoS B tr m).1≤tr.length+opnC B:=by
 intro tr
 induction tr with
 | nil=>intro B m;exact Nat.le_refl _
 | cons x tr ih =>
  intro B m
  by_cases hm: m < tr.length+1
  ·rw [bD hm,List.length_cons];have h1:=ih (B:=undo1 B x) m
   cases x with
   | add n =>
    have h2: opnC (B.take n)≤opnC B:=by unfold opnC;exact(List.take_sublist n B).countP_le
    simp only [undo1] at h1 ⊢;omega
   | bnd v =>
    have h2: ∀(B: List Tm) (j: Nat),opnC (B.set j Tm.zero)≤opnC B+1:=by
     intro B
     induction B with
     | nil=>intro j;simp [opnC]
     | cons t B ihB =>
      intro j
      cases j with
      | zero =>
       unfold opnC;rw [List.set_cons_zero,List.countP_cons,List.countP_cons]
       split <;> split <;> omega
      | succ j =>
       have:=ihB j;unfold opnC at this ⊢;rw [List.set_cons_succ,List.countP_cons,List.countP_cons];omega
    have h2:=h2 B v.toNat;simp only [undo1] at h1 ⊢;omega
  ·rw [bC (by rw [List.length_cons];omega)];exact Nat.le_refl _
theorem eA {B: List Tm} {tr: List Chg} {m: Int} (h: HA B tr): HA (sBack B tr m).1.1 (sBack B tr m).1.2∧(sBack B tr m).1.2.length+opnC (sBack B tr m).1.1≤tr.length+opnC B+2∧(sBack B tr m).1.2.length≤tr.length+(sBack B tr m).1.1.length+1:=by
 by_cases hm:(decide (m < 0)||decide (((tr.length: Nat): Int) < m))=true
 ·rw [eq hm];exact⟨h,Nat.le_add_right _ _,by show tr.length≤tr.length+B.length+1;omega⟩
 ·obtain⟨e,h0,h1⟩:=dC (B:=B) hm;have h2:=undoS_bud (tr:=tr) (B:=B) m.toNat;have h3:=dV (tr:=tr) (B:=B) (m:=m.toNat) (by omega);rw [e];exact⟨⟨h.h.undo _,h.a.undoS _⟩,by show (undoS B tr m.toNat).2.length+opnC (undoS B tr m.toNat).1≤_;omega,by show (undoS B tr m.toNat).2.length≤tr.length+(undoS B tr m.toNat).1.length+1;omega⟩
theorem var_more {B: List Tm} {tr: List Chg} (h: HA B tr):(sVar B tr).2.2=(moreU B 1).2∧((sVar B tr).2.2=0→(sVar B tr).2.1=((B.length: Nat): Int)∧(sVar B tr).1.1=(moreU B 1).1):=by
 have hs:=isB_st h.is;have hm: moreU B 1=if 100000 - ((B.length: Nat): Int) < 1 then ([],2) else (extS B 1,0):=by
  unfold moreU;rw [if_neg (by rw [hs];simp),if_neg (by omega)]
 rw [hm];unfold sVar
 by_cases hl:(100000: Int)≤((B.length: Nat): Int)
 ·rw [if_pos hl,if_pos (by omega)];exact⟨rfl,fun h=>(by cases h)⟩
 ·rw [if_neg hl,if_neg (by omega)];exact⟨rfl,fun _=>⟨rfl,rfl⟩⟩
theorem uni_uni {B: List Tm} {tr: List Chg} {a b: Tm} (h: HA B tr):(sUni B tr a b).2.2=(unifyU B a b).2∧(sUni B tr a b).2.1=(unifyU B a b).1.2∧((sUni B tr a b).2.1=false→(sUni B tr a b).1.1=B)∧((sUni B tr a b).2.1=true→(sUni B tr a b).1.1=(unifyU B a b).1.1):=by
 have hst: stU B=true:=fo h.is;obtain⟨hq1,hq2⟩:=joinQ_S B tr a b;rw [sUni_eq h.h]
 by_cases ho:(okT B.length a&&okT B.length b)=true
 ·have ho2:=ho;rw [Bool.and_eq_true] at ho2;rw [if_pos ho];unfold unifyU;rw [if_pos (gve2 h.is ho2.1 ho2.2),hq1,hq2]
  show (joinS B tr a b).1.2=_∧(joinS B tr a b).1.1=_∧((joinS B tr a b).1.1=false→(if (joinS B tr a b).1.1=true then (joinS B tr a b).2 else (B,tr)).1=B)∧((joinS B tr a b).1.1=true→(if (joinS B tr a b).1.1=true then (joinS B tr a b).2 else (B,tr)).1=_)
  have he:=joinQ_err (B:=B) (a:=a) (b:=b);rw [hq1] at he
  by_cases h0:(joinS B tr a b).1.2=0
  ·rw [if_pos h0]
   cases hb:(joinS B tr a b).1.1 with
   | true=>rw [if_pos Y];exact⟨h0,rfl,fun h=>(by cases h),fun _=>rfl⟩
   | false=>rw [if_neg (by simp)];exact⟨h0,rfl,fun _=>rfl,fun h=>(by cases h)⟩
  ·rw [if_neg h0]
   rcases he with he | he
   ·exact absurd he h0
   ·rw [he];exact⟨rfl,rfl,fun _=>rfl,fun h=>(by cases h)⟩
 ·have ho':(okT B.length a&&okT B.length b)=false:=by simpa using ho
  rw [if_neg ho];have hg: gvE B [a,b]=3:=by
   unfold gvE;rw [if_pos hst,if_neg (by rw [show ([a,b]: List Tm).all (okT B.length)=(okT B.length a&&okT B.length b) by simp,ho'];simp)]
  unfold unifyU;rw [hg,if_neg (by decide)];exact⟨rfl,rfl,fun _=>rfl,fun h=>(by cases h)⟩
def Seen (H: PHeap) (B: List Tm) (tr: List Chg) (f: Int→Option Value): Prop:= ∀ q v,f q=some v→(0≤q∧q≤tr.length)∧∃ A c,v=sv A (undoS B tr q.toNat).1.length c∧RowT H A c (undoS B tr q.toNat).1
theorem Seen.mono {H H': PHeap} {B: List Tm} {tr: List Chg} {f: Int→Option Value} (h: Seen H B tr f) (hl: Le H H'): Seen H' B tr f:=fun q v hq=>by
 obtain⟨h1,A,c,h2,h3⟩:=h q v hq;exact⟨h1,A,c,h2,h3.mono hl⟩
theorem Seen.go {H: PHeap} {B B': List Tm} {tr tr': List Chg} {f: Int→Option Value} (h: Seen H B tr f) (hb: Back B tr B' tr'): Seen H B' tr' f:=fun q v hq=>by
 obtain⟨h1,A,c,h2,h3⟩:=h q v hq;have e:=hb.at_ (m:=q.toNat) (by omega);exact⟨⟨h1.1,by have:=hb.1;omega⟩,A,c,by rw [e];exact h2,by rw [e];exact h3⟩
theorem Seen.put {H: PHeap} {B: List Tm} {tr: List Chg} {f: Int→Option Value} (h: Seen H B tr f) {A: Option Addr} {c: Nat} (hr: RowT H A c B): Seen H B tr (putF f tr.length (sv A B.length c)):=fun q v hq=>by
 unfold putF at hq
 split at hq
 ·rename_i e
  obtain rfl:=Option.some.inj hq;subst e;have e2: undoS B tr ((tr.length: Nat): Int).toNat=(B,tr):=bC (Nat.le_refl _);exact⟨⟨by omega,Int.le_refl _⟩,A,c,by rw [e2],by rw [e2];exact hr⟩
 ·exact h q v hq
theorem Seen.cut {H: PHeap} {B: List Tm} {tr: List Chg} {f f': Int→Option Value} {m: Int} (h: Seen H B tr f) (h0: 0≤m) (h1: m≤tr.length) (hf: ∀ q,f' q=if m < q then none else f q): Seen H (undoS B tr m.toNat).1 (undoS B tr m.toNat).2 f':=fun q v hq=>by
 rw [hf] at hq
 split at hq
 ·cases hq
 ·obtain⟨h2,A,c,h3,h4⟩:=h q v hq;have e:=undoS_twice (tr:=tr) (B:=B) (m:=m.toNat) (k:=q.toNat) (by omega);have e2:=dV (tr:=tr) (B:=B) (m:=m.toNat) (by omega);exact⟨⟨h2.1,by omega⟩,A,c,by rw [e];exact h3,by rw [e];exact h4⟩
theorem Seen.back {H: PHeap} {B: List Tm} {tr: List Chg} {f f': Int→Option Value} {m: Int} (h: Seen H B tr f) (he:(sBack B tr m).2=0) (hf: ∀ q,f' q=if m < q then none else f q): Seen H (sBack B tr m).1.1 (sBack B tr m).1.2 f':=by
 obtain⟨e,h0,h1⟩:=ej he;rw [e];exact h.cut h0 h1 hf
def Cut (f0 f: Int→Option Value) (m: Int) (left: Int→Bool): Prop:= ∀ q,if m < q then (f q=none∨left q=true) else f q=f0 q
theorem cut_start {f0: Int→Option Value} {m: Int}: Cut f0 f0 m (fun q=>(f0 q).isSome):=fun q=>by
 split
 ·show f0 q=none∨(f0 q).isSome=true
  cases f0 q <;> simp
 ·rfl
theorem cut_end {f0 f: Int→Option Value} {m: Int} {left: Int→Bool} (h: Cut f0 f m left) (hl: ∀ q,left q=false): ∀ q,f q=if m < q then none else f0 q:=fun q=>by
 have:=h q
 split at this
 ·rename_i h1
  rw [if_pos h1]
  rcases this with h2 | h2
  ·exact h2
  ·rw [hl] at h2;cases h2
 ·rename_i h1
  rw [if_neg h1];exact this
theorem cut_keep {f0 f: Int→Option Value} {m k: Int} {left: Int→Bool} (h: Cut f0 f m left) (hk: ¬ m < k): Cut f0 f m (fun x=>left x&&!decide (x=k)):=fun q=>by
 have:=h q
 split at this
 ·rename_i h1
  rw [if_pos h1]
  rcases this with h2 | h2
  ·exact .inl h2
  ·refine .inr ?_
   show (left q&&!decide (q=k))=true
   rw [h2,decide_eq_false (by omega)];rfl
 ·rename_i h1
  rw [if_neg h1];exact this
theorem cut_del {f0 f: Int→Option Value} {m k: Int} {left left': Int→Bool} (h: Cut f0 f m left) (hk: m < k) (hl: ∀ x,x≠k→left' x=left x): Cut f0 (delF f k) m left':=fun q=>by
 have:=h q;unfold delF
 split at this
 ·rename_i h1
  rw [if_pos h1]
  by_cases e: q=k
  ·rw [if_pos e];exact .inl Y
  ·rw [if_neg e,hl q e];exact this
 ·rename_i h1
  rw [if_neg h1,if_neg (by omega)];exact this
end Go.Vk
namespace Go.Vk
end Go.Vk
namespace Go.Vk.Try
open Go.RowKit
theorem few_bad {ps: List OpV} {p: OpV} {k: Nat} (h: ps[k]? =some p) (hb: opB p=false): fewB ps=false:=by
 cases hf: fewB ps with
 | false=>rfl
 | true=>rw [fewB_at hf (List.mem_of_getElem? h)] at hb;cases hb
theorem few_long {ps: List OpV} (h:(40: Int) <((ps.length: Nat): Int)): fewB ps=false:=by
 unfold fewB;rw [decide_eq_false (by omega)];rfl
theorem few_end {ps: List OpV} {k: Nat} (h: ¬(40: Int) <((ps.length: Nat): Int)) (hk: ps.length≤k) (hv:(ps.take k).all opB=true): fewB ps=true:=by
 unfold fewB;rw [List.take_of_length_le hk] at hv;rw [decide_eq_true (by omega),hv];rfl
theorem few_step {ps: List OpV} {k: Nat} {p: OpV} (h: ps[k]? =some p) (hv:(ps.take k).all opB=true) (hb: opB p=true):(ps.take (k+1)).all opB=true:=by
 rw [List.take_add_one,h,List.all_append,hv];simp [hb]
set_option maxHeartbeats 2000000 in
theorem c_few {w0: World} {H: PHeap} (hI: Inv w0 H []) {Ap: Option Addr} {cp: Nat} {ps: List OpV} (hp: RowG 10 OpV.cells H Ap cp ps) (hq: AllO H ps): Calls prog 30 #[(.slice Ap ps.length cp)] w0 (Rs w0 H (.bool (fewB ps))):=by
 have hS:=Step.refl hI;have hlps:=hp.len;refine enter [(.slice Ap ps.length cp)] func30 Y ntmps30 Y fun a ha=>?_;refine wp_seq (ab (Ls Y ha fun a ha=>?_));refine wpList_nil (aa (wp_seq (wp_seq (ab (Lm Y ha fun a ha=>?_)))));refine lin Y (aF T54.und ha Y Y fun a ha=>?_);refine lin Y (b0 (i:=((ps.length: Nat): Int)) (j:=40) ha Y Y Y fun a ha=>?_);refine wpList_nil (aa (al (t:=8) ha Y (fun h1 ha=>?_) (fun h1 ha=>?_)))
 ·refine ar ha Y (wp_seq (ab (Ls Y ha fun a ha=>?_)));refine wpList_nil (aa (wp_ret (aj (ret1 Y ha Y ?_))));exact⟨by rw [few_long (by omega)],hS.plain.drop_all⟩
 ·refine am ha Y (wp_skip (aa (wp_seq (wp_seq (ab (Lm Y ha fun a ha=>?_))))));refine lin Y (aF T54.und ha Y Y fun a ha=>?_);refine Lm Y ha fun a ha=>?_;refine wpList_nil (aa (wp_block (aN (fun nn_ a w=> ∃(k: Nat),nn_=ps.length - k∧Has [] a 26 [(9,(.slice Ap ps.length cp)),(10,(iV ((ps.length: Nat): Int))),(11,(iV ((k: Nat): Int)))]∧Step w0 H [] w H []∧(k≤ps.length)∧((ps.take k).all opB=true)) _ ⟨0,rfl,ha.pk Y,hS,(by omega),rfl⟩ ?_)));intro n2 a w hh;obtain⟨k,hn2,ha,hS,hk,hv⟩:=hh;refine wp_seq (ab (lin Y (a0 (i:=((k: Nat): Int)) (j:=((ps.length: Nat): Int)) ha Y Y Y fun a ha=>?_)));refine wpList_nil (aa (wp_seq (al (t:=12) ha Y (fun h3 ha=>?_) (fun h3 ha=>?_))))
  ·refine ar ha Y (wp_skip (aa (wp_seq (wp_block (wp_seq (ab ?_))))));obtain⟨x4,b4,off4,e4,cs4,fz4,hx4,hA4,hb4,hc4⟩:=hp.get (j:=k) (by omega);obtain⟨hqa4,hqb4⟩:=hq _ (List.mem_of_getElem? hx4);refine lin Y (ay (b:=b4) (o:=off4) (j:=k) T54.und T61 hA4 ha Y Y (by omega) (by omega) Y fun a ha=>?_);refine lin Y (ak (vs:= [(iV x4.dO),(iV x4.n),(iV ((x4.a.t).kind)),(iV ((x4.a.t).n)),(.string ((x4.a.t).s)),(.slice x4.a.A ((x4.a.t).l.length) x4.a.c),(iV ((x4.b.t).kind)),(iV ((x4.b.t).n)),(.string ((x4.b.t).s)),(.slice x4.b.A ((x4.b.t).l.length) x4.b.c)]) T61 Y ha Y (hS.blkH hb4) Y hc4 Y fun a ha=>?_);refine lin Y (aC (cs:= #[(iV 0),(iV 0),(iV 0),(iV 0),(.string (⟨#[]⟩)),(.slice none 0 0),(iV 0),(iV 0),(.string (⟨#[]⟩)),(.slice none 0 0)]) T61 hS ha Y Y fun b5 a w hS ha=>?_);refine lin Y (aw (cs':= #[(iV x4.dO),(iV x4.n),(iV ((x4.a.t).kind)),(iV ((x4.a.t).n)),(.string ((x4.a.t).s)),(.slice x4.a.A ((x4.a.t).l.length) x4.a.c),(iV ((x4.b.t).kind)),(iV ((x4.b.t).n)),(.string ((x4.b.t).s)),(.slice x4.b.A ((x4.b.t).l.length) x4.b.c)]) T61 hS (i:=0) Y ha Y Y Y Y Y Y fun a w hS ha=>?_);refine wpList_nil (aa (wp_seq (ab (lin Y (aC (cs:= #[(iV 0)]) T3 hS ha Y Y fun b7 a w hS ha=>?_)))));refine lin Y (aw (cs':= #[(iV 100)]) T3 hS (i:=0) Y ha Y Y Y Y Y Y fun a w hS ha=>?_);refine wpList_nil (aa (wp_seq (ab (lin Y (ac (f:=2) (o2:=2) T61 T26 Y Y Y Y ha Y Y fun a ha=>?_)))));refine lin Y (ak (vs:=(tL (x4.a.t) x4.a.A x4.a.c)) T26 Y ha Y (hS.blkL 1 rfl) Y (af Y) Y fun a ha=>?_);refine lin Y (Co func51 ha Y (eJ _ _ _ _ _ _ _ _ hqa4 (by omega) (by omega) hS.inv.one) ?_);rintro e w ⟨rfl,hc⟩;refine⟨_,rfl,fun a ha=>?_⟩;have hS:=hS.call_one hc;refine lin Y (aQ ha Y Y fun a ha=>?_);refine Lm Y ha fun a ha=>?_;refine av (t:=19) ha Y (fun h9 ha=>?_) (fun h9 ha=>?_)
   ·have hl1_:(lawC 100 1 x4.a.t).1=false:=by simpa using h9
    refine Lf Y ha Y Y fun a ha=>?_;refine Lf Y ha Y Y fun a ha=>?_;refine Lf Y ha Y Y fun a ha=>?_;refine Lf Y ha Y Y fun a ha=>?_;refine lin Y (an ha Y Y Y fun a ha=>?_);refine wpList_nil (aa (ar ha Y (wp_seq (ab (Ls Y ha fun a ha=>?_)))));refine wpList_nil (aa (wp_ret (az (aj (aj (az (aj (ret1 Y ha Y ?_))))))));have hb_: opB x4=false:=by unfold opB;rw [hl1_];rfl
    exact⟨by rw [few_bad hx4 hb_],hS.plain.drop_all⟩
   ·have hl1_:(lawC 100 1 x4.a.t).1=true:=by simpa using h9
    have hlt_:=dm x4.a.t 100 1 hl1_;refine ae Y ha Y Y Y (ac (f:=3) (o2:=6) T61 T26 Y Y Y Y ha Y Y fun a ha=>?_);refine ae Y ha Y Y Y (ak (vs:=(tL (x4.b.t) x4.b.A x4.b.c)) T26 Y ha Y (hS.blkL 1 rfl) Y (af Y) Y fun a ha=>?_);refine ae Y ha Y Y Y (Co func51 ha Y (eJ _ _ _ _ _ _ _ _ hqb4 (by omega) (by omega) hS.inv.one) ?_);rintro e w ⟨rfl,hc⟩;refine⟨_,rfl,fun a ha=>?_⟩;have hS:=hS.call_one hc;refine ae Y ha Y Y Y (aQ ha Y Y fun a ha=>?_);refine lin Y (ah ha Y Y Y fun a ha=>?_);refine wpList_nil (aa (av (t:=24) ha Y (fun h10 ha=>?_) (fun h10 ha=>?_)))
    ·have hl2_:(lawC (lawC 100 1 x4.a.t).2 1 x4.b.t).1=false:=by simpa using h10
     refine ar ha Y (wp_seq (ab (Ls Y ha fun a ha=>?_)));refine wpList_nil (aa (wp_ret (az (aj (aj (az (aj (ret1 Y ha Y ?_))))))));have hb_: opB x4=false:=by unfold opB;rw [hl1_,hl2_];rfl
     exact⟨by rw [few_bad hx4 hb_],hS.plain.drop_all⟩
    ·have hl2_:(lawC (lawC 100 1 x4.a.t).2 1 x4.b.t).1=true:=by simpa using h10
     refine am ha Y (wp_skip (au (aa (ab (lin Y (aM (i:=((k: Nat): Int)) (j:=1) ha Y Y Y (by omega) fun a ha=>?_))))));refine Lm Y ha fun a ha=>?_;refine wpList_nil (aa (?_));have hb_: opB x4=true:=by unfold opB;rw [hl1_,hl2_];rfl
     have hS:=hS.drop;have hS:=hS.drop;exact⟨ps.length - (k+1),by omega,(k+1),rfl,ha.pk Y,hS,(by omega),(few_step hx4 hv hb_)⟩
  ·refine am ha Y (wp_exit (ao (ao (aD (aa (wp_seq (ab (Ls Y ha fun a ha=>?_))))))));refine wpList_nil (aa (wp_ret (ret1 Y ha Y ?_)));exact⟨by rw [few_end (by omega) (show ps.length≤k by omega) hv],hS.plain.drop_all⟩
end Go.Vk.Try
namespace Go.Vk.Try
open Go.RowKit
end Go.Vk.Try
