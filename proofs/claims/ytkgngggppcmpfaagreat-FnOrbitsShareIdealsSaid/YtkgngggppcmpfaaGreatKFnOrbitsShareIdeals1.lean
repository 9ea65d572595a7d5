/- Laws about the given program: the law FnOrbitsShareIdeals answers true for every input that its row lets in; no condition is added to the given statement. Contracts of the Go functions that it reaches, and the plain proof over lists. -/
import Derived.Test.YtkgngggppcmpfaaGreatWFnOrbitsShareIdeals0
import Derived.Test.YtkgngggppcmpfaaGreatKFnOrbitsShareIdeals0
section
namespace Go.Proofs.YtkgngggppcmpfaaGreat.L
open Go.RowKit Go.Proofs.YtkgngggppcmpfaaGreatW.PrintWords Go.Proofs.YtkgngggppcmpfaaGreatW.PrintLast Go.Proofs.YtkgngggppcmpfaaGreatW.PrintMore Go.Proofs.YtkgngggppcmpfaaGreat.X
attribute [local go_sem] Q2 Q4 Qbd Qbe Qz Q0 Q3 Q5
set_option linter.unusedVariables false
set_option linter.unusedSimpArgs false
def Qx.f (s0_0 : List Int) (s0_1 : Int) (s0_2 : Int) (a1 : Int) : Option (Int × Int × Int) := if a1 ≤ 1 then (some (0, s0_1, s0_2)) else ((Qdo.f s0_0 s0_1 s0_2).bind fun bt162 => (if a1 > 200 then ((Qdo.f s0_0 bt162.2.1 bt162.2.2).bind fun bt165 => (if a1 = 0 then (none) else (some (Int.tmod (wrap64 ((wrap64 (bt162.1 * 256)) + bt165.1)) a1, bt165.2.1, bt165.2.2)))) else (if a1 = 0 then (none) else (some (Int.tmod bt162.1 a1, bt162.2.1, bt162.2.2)))))
set_option maxHeartbeats 8000000 in
set_option maxRecDepth 100000 in
theorem Qx.calls (g : Nat) (s0_0 : List Int) (s0_1 : Int) (s0_2 : Int) (a1 : Int) (r1 : Int) (r2 : Int) (r3 : Int) (w0 w : World) (hI : Qa w0 w g s0_0 s0_1 s0_2) (hB : Below w0.heap.size w0 w) (h : Qx.f s0_0 s0_1 s0_2 a1 = some (r1, r2, r3)) :
 Calls Tryz.prog 162 #[.pointer (some ⟨g,0,none⟩), .int .i64 a1] w fun e w'=>e= .returned (.int .i64 r1)∧Qa w0 w' g s0_0 r2 r3∧Below w0.heap.size w0 w'∧Qh w w' g none:=by
 have HI0:=Aside0.mk hI;have HK:=Aside0.mk (Qh.refl w g none);have HL:=Aside0.mk hB.size;clear hI;have HW0:=Aside0.mk hB.size;have HB:=Aside0.mk hB;clear hB;have H:(if a1≤1 then (some (0,s0_1,s0_2)) else ((Qdo.f s0_0 s0_1 s0_2).bind fun bt162=>(if a1>200 then ((Qdo.f s0_0 bt162.2.1 bt162.2.2).bind fun bt165=>(if a1=0 then (none) else (some (Int.tmod (wrap64 ((wrap64 (bt162.1*256))+bt165.1)) a1,bt165.2.1,bt165.2.2)))) else (if a1=0 then (none) else (some (Int.tmod bt162.1 a1,bt162.2.1,bt162.2.2))))))=some (r1,r2,r3):=h;clear h
 by_cases c3:a1≤1
 ·
  rw [if_pos c3] at H;have c3b0:=decide_eq_true c3;clear c3;simp only [Option.some.injEq,Prod.mk.injEq] at H;obtain ⟨rfl,rfl,rfl⟩:=H;go_enter Tryz.func162,Tryz.ntmps162;go_wp2
  go_ret
  exact ⟨by first|rfl|(simp [Qf,Qg] <;>rfl)|(simp [*,Qf,Qg] <;>rfl),(Qa.vI HI0),(Qa.vB HB),(vK HK)⟩
 ·
  rw [if_neg c3] at H;have c3b0:=decide_eq_false c3;clear c3;obtain ⟨⟨t162,t163,t164⟩,A4,H⟩:=bs H;(try dsimp only at H)
  by_cases c5:a1>200
  ·
   rw [if_pos c5] at H;have c5b0:=decide_eq_true c5;clear c5;obtain ⟨⟨t165,t166,t167⟩,A6,H⟩:=bs H;(try dsimp only at H)
   by_cases c7:a1=0
   ·
    rw [if_pos c7] at H;exact absurd H (by simp)
   ·
    rw [if_neg c7] at H;have c7b0:(a1==0)=false:=beq_eq_false_iff_ne.mpr c7;have c7b1:(a1 !=0)=true:=bne_iff_ne.mpr c7;simp only [Option.some.injEq,Prod.mk.injEq] at H;obtain ⟨rfl,rfl,rfl⟩:=H;go_enter Tryz.func162,Tryz.ntmps162;go_wp2_with (first|(refine gA (some 9) Tryz.func284 #[.pointer (some ⟨g,0,none⟩)] ?_;(with_reducible refine (Qdo.calls g s0_0 s0_1 s0_2 t162 t163 t164 w0 _ (Qa.vI HI0) (Qa.vB HB) A4.out).mono ?_);rintro e w8 ⟨rfl,hi,hb,hk⟩;refine ⟨_,rfl,?_⟩;replace HK:=Aside0.mk (Qh.trans (vK HK) hk (.inl rfl));replace HB:=Aside0.mk (hb);replace HI0:=Aside0.mk (hi);(try clear hb hk hi))|(refine gA (some 15) Tryz.func284 #[.pointer (some ⟨g,0,none⟩)] ?_;(with_reducible refine (Qdo.calls g s0_0 t163 t164 t165 t166 t167 w0 _ (Qa.vI HI0) (Qa.vB HB) A6.out).mono ?_);rintro e w9 ⟨rfl,hi,hb,hk⟩;refine ⟨_,rfl,?_⟩;replace HK:=Aside0.mk (Qh.trans (vK HK) hk (.inl rfl));replace HB:=Aside0.mk (hb);replace HI0:=Aside0.mk (hi);(try clear hb hk hi)))
    go_ret
    exact ⟨by first|rfl|(simp [Qf,Qg] <;>rfl)|(simp [*,Qf,Qg] <;>rfl),(Qa.vI HI0),(Qa.vB HB),(vK HK)⟩
  ·
   rw [if_neg c5] at H;have c5b0:=decide_eq_false c5;clear c5
   by_cases c10:a1=0
   ·
    rw [if_pos c10] at H;exact absurd H (by simp)
   ·
    rw [if_neg c10] at H;have c10b0:(a1==0)=false:=beq_eq_false_iff_ne.mpr c10;have c10b1:(a1 !=0)=true:=bne_iff_ne.mpr c10;simp only [Option.some.injEq,Prod.mk.injEq] at H;obtain ⟨rfl,rfl,rfl⟩:=H;go_enter Tryz.func162,Tryz.ntmps162;go_wp2_with (first|(refine gA (some 9) Tryz.func284 #[.pointer (some ⟨g,0,none⟩)] ?_;(with_reducible refine (Qdo.calls g s0_0 s0_1 s0_2 t162 t163 t164 w0 _ (Qa.vI HI0) (Qa.vB HB) A4.out).mono ?_);rintro e w11 ⟨rfl,hi,hb,hk⟩;refine ⟨_,rfl,?_⟩;replace HK:=Aside0.mk (Qh.trans (vK HK) hk (.inl rfl));replace HB:=Aside0.mk (hb);replace HI0:=Aside0.mk (hi);(try clear hb hk hi)))
    go_ret
    exact ⟨by first|rfl|(simp [Qf,Qg] <;>rfl)|(simp [*,Qf,Qg] <;>rfl),(Qa.vI HI0),(Qa.vB HB),(vK HK)⟩
def Qcj.f (s0_0 : List Int) (s0_1 : Int) (s0_2 : Int) (l1 : List Int) : Option (Int × Int × Int) := (Qx.f s0_0 s0_1 s0_2 (l1.length : Int)).bind fun bt168 => (if 0 ≤ bt168.1 then (if bt168.1 < (l1.length : Int) then (some (rd l1 bt168.1, bt168.2.1, bt168.2.2)) else (none)) else (none))
set_option maxHeartbeats 8000000 in
set_option maxRecDepth 100000 in
theorem Qcj.calls (g : Nat) (s0_0 : List Int) (s0_1 : Int) (s0_2 : Int) (A1 : Option Addr) (c1 : Nat) (l1 : List Int) (r1 : Int) (r2 : Int) (r3 : Int) (w0 w : World) (hI : Qa w0 w g s0_0 s0_1 s0_2) (hB : Below w0.heap.size w0 w) (hr1 : Kd.C (Kd.int .i64) w A1 l1.length l1) (hc1 : l1.length ≤ c1) (hf1 : ∀ ad, A1 = some ad → 0 < l1.length → ad.block ≠ g) (h : Qcj.f s0_0 s0_1 s0_2 l1 = some (r1, r2, r3)) :
 Calls Tryz.prog 190 #[.pointer (some ⟨g,0,none⟩), .slice A1 l1.length c1] w fun e w'=>e= .returned (.int .i64 r1)∧Qa w0 w' g s0_0 r2 r3∧Below w0.heap.size w0 w'∧Qh w w' g none:=by
 have HR1:=Aside0.mk hr1;have HC1:=Aside0.mk hc1;clear hr1 hc1;have HI0:=Aside0.mk hI;have HK:=Aside0.mk (Qh.refl w g none);have HL:=Aside0.mk hB.size;clear hI;have HW0:=Aside0.mk hB.size;have HB:=Aside0.mk hB;clear hB;have H:((Qx.f s0_0 s0_1 s0_2 (l1.length:Int)).bind fun bt168=>(if 0≤bt168.1 then (if bt168.1<(l1.length:Int) then (some (rd l1 bt168.1,bt168.2.1,bt168.2.2)) else (none)) else (none)))=some (r1,r2,r3):=h;clear h;obtain ⟨⟨t168,t169,t170⟩,A3,H⟩:=bs H;(try dsimp only at H)
 by_cases c4:0≤t168
 ·
  rw [if_pos c4] at H;have c4b0:=decide_eq_true c4;clear c4
  by_cases c5:t168<(l1.length:Int)
  ·
   rw [if_pos c5] at H;have c5b0:=decide_eq_true c5;clear c5;simp only [Option.some.injEq,Prod.mk.injEq] at H;obtain ⟨rfl,rfl,rfl⟩:=H;go_enter Tryz.func190,Tryz.ntmps190;go_wp2_with (first|(refine gA (some 9) Tryz.func162 #[.pointer (some ⟨g,0,none⟩), .int .i64 (l1.length:Int)] ?_;(with_reducible refine (Qx.calls g s0_0 s0_1 s0_2 (l1.length:Int) t168 t169 t170 w0 _ (Qa.vI HI0) (Qa.vB HB) A3.out).mono ?_);rintro e w6 ⟨rfl,hi,hb,hk⟩;refine ⟨_,rfl,?_⟩;replace HK:=Aside0.mk (Qh.trans (vK HK) hk (.inl rfl));replace HB:=Aside0.mk (hb);replace HI0:=Aside0.mk (hi);(try clear hb hk hi);have p171:0≤(t168:Int):=of_decide_eq_true (by first|(with_reducible assumption)|assumption);have q171:t168<(l1.length:Int):=of_decide_eq_true (by first|(with_reducible assumption)|assumption);obtain ⟨ad171,e171,hx171_0⟩:=Kd.at_int HR1.out t168 p171 q171;cases e171;replace hx171_0:=Qhp HK.out hx171_0 (by first|(rw [Qhg];exact hf1 _ rfl (by omega))|exact hf1 _ rfl (by omega)|exact hf1 ad171 rfl (by omega));replace p171:=eq_true p171;replace q171:=eq_true q171))
   go_ret
   exact ⟨by first|rfl|(simp [Qf,Qg] <;>rfl)|(simp [*,Qf,Qg] <;>rfl),(Qa.vI HI0),(Qa.vB HB),(vK HK)⟩
  ·
   rw [if_neg c5] at H;exact absurd H (by simp)
 ·
  rw [if_neg c4] at H;exact absurd H (by simp)
def Qdx.f (l0 : List Int) : Option (List Int) := (some (([] : List Int) : List Int)).bind fun y172 => (if y172.length + l0.length < 17592186044416 then (some (y172 ++ l0)) else (none))
set_option maxHeartbeats 8000000 in
set_option maxRecDepth 100000 in
theorem Qdx.calls (A0 : Option Addr) (c0 : Nat) (l0 : List Int) (r : List Int) (w : World) (hr0 : Kd.C (Kd.int .i64) w A0 l0.length l0) (hc0 : l0.length ≤ c0) (h : Qdx.f l0 = some r) :
 Calls Tryz.prog 273 #[.slice A0 l0.length c0] w fun e w'=> ∃ v0_:Value,e= .returned (v0_)∧Kd.R (Kd.int .i64) 3 w' w.heap.size (fun _=>True) v0_ r∧Below w.heap.size w w':=by
 have HR0:=Aside0.mk hr0;have HC0:=Aside0.mk hc0;clear hr0 hc0;have HB:=Aside0.mk (Below.refl w.heap.size w);have H:((some (([] :List Int):List Int)).bind fun y172=>(if y172.length+l0.length<17592186044416 then (some (y172++l0)) else (none)))=some r:=h;clear h;obtain ⟨y172,hy172⟩: ∃ y_:List Int,y_=(([] :List Int)):=⟨_,rfl⟩
 replace H:(if y172.length+l0.length<17592186044416 then (some (y172++l0)) else (none))=some r:=by first|(rw [hy172];with_reducible exact H)|(have H2_:=(Option.bind_some _ _).symm.trans H;rw [hy172];with_reducible exact H2_)|(have H2_:=(Option.bind_some _ _).symm.trans H;with_reducible exact H2_)|with_reducible exact H|(rw [hy172];exact H)|exact H
 have Ny172:=Aside0.mk hy172;clear hy172
 by_cases c2:y172.length+l0.length<17592186044416
 ·
  rw [if_pos c2] at H;have LMc2:=Aside0.mk c2;clear c2;obtain ⟨y175,hy175⟩: ∃ y_:List Int,y_=(y172++l0):=⟨_,rfl⟩
  replace H:(some y175)=some r:=by first|(rw [hy175];with_reducible exact H)|(have H2_:=(Option.bind_some _ _).symm.trans H;rw [hy175];with_reducible exact H2_)|(have H2_:=(Option.bind_some _ _).symm.trans H;with_reducible exact H2_)|with_reducible exact H|(rw [hy175];exact H)|exact H
  have Ny175:=Aside0.mk hy175;clear hy175;obtain rfl:=Option.some.inj H;go_enter Tryz.func273,Tryz.ntmps273;go_wp2_with (first|((with_reducible refine Qbl (N:=3) rfl ?_);refine Kd.R_lit (Kd.int .i64) _ 3 ?hg (N:=3) ?hd (xs:=([] :List Int)) (inner:= []) (ok:=fun _=>True) (okp:=fun _=>True) ?hr ?hp (fun _ hk=>hk) trivial (Below.refl _ _) (Nat.le_refl _) (by simp) ?_;(case hd=>rfl);(case hg=>rfl);(case hr=>first|(go_simp;done)|(go_simp;rfl));(case hp=>exact (Reps.none _ _));intro v173 w3 ho4 hb hg_ hnew_;clear hg_ hnew_;(first|rw [←Ny172.out] at ho4|(simp only [Int.reduceToNat] at ho4;rw [←Ny172.out] at ho4));have HO174:=Aside0.mk (Kd.R_lower ho4 (Qd (uB HB)));replace HB:=Aside0.mk (Qc (uB HB) hb);clear hb ho4)|((with_reducible refine Qb5 (b:= .append) (xs:= #[.tmp 3, .tmp 4]) rfl ?_);at_builtin;refine Kd.R_append_rows (Kd.int .i64) (w0:=w) w.heap.size rfl (.tmp 3) (.tmp 4) 24 3 (.int .i64 0) 8 rfl Tryz.underlying24 Qdv rfl (by decide) (by omega) v173 y172 l0 _ _ _ (fun _=>True) (fun _=>False) rfl rfl ?aO ?aR (fun _ _ h=>h) (fun _ h=>h.elim) ?aF ?aB ?aS ?aL ?_;(case aR=>repeat (first|exact (Kd.C_below HR0.out HB.out)|(with_reducible refine Kd.C_alloc ?_ _)|(with_reducible refine Kd.C_drewN ?_ _)|(with_reducible refine Kd.C_drew ?_)));(case aB=>exact (uB HB));(case aF=>exact (fun _ _=>trivial));(case aO=>exact (uR HO174));(case aS=>exact (Qd (uB HB)));(case aL=>have:=LMc2.out;omega);intro v176 w5 ho hb hg hat;rw [←Ny175.out] at ho;replace HB:=Aside0.mk (hb);have HO177:=Aside0.mk (ho);clear HO174;clear ho hb hg hat))
  go_ret
  exact ⟨_,by first|rfl|(simp [Qf,Qg] <;>rfl)|(simp [*,Qf,Qg] <;>rfl),uR HO177,uB HB⟩
 ·
  rw [if_neg c2] at H;exact absurd H (by simp)
mutual
def Q8.l0 : Nat → Int → List (List Int) → Int → List Int → Option (List Int)
 |0,_,_,_,_=>none
 |k+1,x0,x1,x6,x183000=>if x6<x0 then (Q8.l1 k x0 x1 x6 x1 (x1.length:Int) 0 x183000) else (some x183000)
def Q8.l1 : Nat → Int → List (List Int) → Int → List (List Int) → Int → Int → List Int → Option (List Int)
 |0,_,_,_,_,_,_,_=>none
 |k+1,x0,x1,x6,x17,x18,x19,x183000=>if x19<x18 then (if 0≤x19 then (if x19<(x17.length:Int) then (if 1<((Qu x17 x19).length:Int) then (if (rd (Qu x17 x19) 1)=x6 then (if 0≤x6 then (if x6<(x183000.length:Int) then (if 0<((Qu x17 x19).length:Int) then (if 0≤(rd (Qu x17 x19) 0) then (if (rd (Qu x17 x19) 0)<(x183000.length:Int) then (Q8.l1 k x0 x1 x6 x17 x18 (wrap64 (x19+1)) (x183000.set (x6:Int).toNat (Go.bits .or .i64 (rd x183000 x6) (Go.bits .or .i64 (shl .i64 1 (rd (Qu x17 x19) 0)) (rd x183000 (rd (Qu x17 x19) 0)))))) else (none)) else (none)) else (none)) else (none)) else (none)) else (Q8.l1 k x0 x1 x6 x17 x18 (wrap64 (x19+1)) x183000)) else (none)) else (none)) else (none)) else (Q8.l0 k x0 x1 (wrap64 (x6+1)) x183000)
end
def Q8.f (k : Nat) (a0 : Int) (l1 : List (List Int)) : Option (List Int) := if 0 ≤ a0 then (if (a0 : Int).toNat ≤ 35184372088832 then (Q8.l0 k a0 l1 0 (List.replicate (a0 : Int).toNat 0)) else (none)) else (none)
theorem Q8.mono_l : ∀ k, (∀ y0 y1 y2 y3, LeO (Q8.l0 k y0 y1 y2 y3) (Q8.l0 (k + 1) y0 y1 y2 y3)) ∧ (∀ y0 y1 y2 y3 y4 y5 y6, LeO (Q8.l1 k y0 y1 y2 y3 y4 y5 y6) (Q8.l1 (k + 1) y0 y1 y2 y3 y4 y5 y6))
 |0=>⟨fun _ _ _ _ r h=>by simp [Q8.l0] at h,fun _ _ _ _ _ _ _ r h=>by simp [Q8.l1] at h⟩
 |k+1=>by
  obtain ⟨ih0,ih1⟩:=Q8.mono_l k;refine ⟨?_,?_⟩
  all_goals
   intros
   first|unfold Q8.l0|unfold Q8.l1
   repeat' (with_reducible first|apply ih0|apply ih1|exact LeO.refl _|exact LeO.none _|refine LeO.ite ?_ ?_|refine LeO.bind ?_ (fun _=> ?_))
theorem Q8.mono : ∀ a0 a1 k, LeO (Q8.f k a0 a1) (Q8.f (k + 1) a0 a1) := by
 intro a0 a1 k;obtain ⟨ih0,ih1⟩:=Q8.mono_l k;unfold Q8.f
 repeat' (with_reducible first|apply ih0|apply ih1|exact LeO.refl _|exact LeO.none _|refine LeO.ite ?_ ?_|refine LeO.bind ?_ (fun _=> ?_))
def Q8.T9 : Bool × List (List Nat × List Nat) := (true, [([], []), ([0], [0]), ([], []), ([1, 2], [1, 2]), ([3], [3]), ([], []), ([5], [5]), ([6], [6]), ([7], [7]), ([], []), ([9], [9]), ([], []), ([11], [11]), ([12], [12]), ([10, 13], [10, 13]), ([14], [14]), ([8, 15], [8, 15]), ([4, 16], [4, 16]), ([1, 2, 0, 1, 2, 3, 4, 5, 6, 7, 8, 9, 10, 11, 12, 13, 14, 15, 16, 17], [1, 2]), ([18, 17, 0, 1, 2, 3, 4, 5, 6, 7, 8, 9, 10, 11, 12, 13, 14, 15, 16, 17], [17, 18])])
def Q8.B9 : List Nat := [0, 1, 0, 7, 15, 0, 32, 96, 224, 0, 512, 0, 2048, 6144, 15872, 32256, 65504, 131071, 262143, 524287]
theorem Q8.tab9 : rtab .any (Qh6 Tryz.f163 9) = Q8.T9 := by kernel_rfl
theorem Q8.bits9 : Qer Q8.T9.2 Q8.B9 = true := by kernel_rfl
set_option maxHeartbeats 8000000 in
set_option maxRecDepth 100000 in
theorem Q8.calls (k : Nat) (a0 : Int) (A1 : Option Addr) (c1 : Nat) (l1 : List (List Int)) (r : List Int) (w : World) (hr1 : Kd.C (Kd.slice 3 (Kd.int .i64)) w A1 l1.length l1) (hc1 : l1.length ≤ c1) (h : Q8.f k a0 l1 = some r) :
 Calls Tryz.prog 163 #[.int .i64 a0, .slice A1 l1.length c1] w fun e w'=> ∃ v0_:Value,e= .returned (.agg #[v0_])∧Kd.R (Kd.int .i64) 3 w' w.heap.size (fun _=>True) v0_ r∧Below w.heap.size w w':=by
 have hu26:=Tryz.underlying26;have HR1:=Aside0.mk hr1;have HC1:=Aside0.mk hc1;clear hr1 hc1;have HB:=Aside0.mk (Below.refl w.heap.size w);have H:(if 0≤a0 then (if (a0:Int).toNat≤35184372088832 then (Q8.l0 k a0 l1 0 (List.replicate (a0:Int).toNat 0)) else (none)) else (none))=some r:=h;clear h
 by_cases c3:0≤a0
 ·
  rw [if_pos c3] at H;have c3b0:=eq_true c3;have c3b1:=decide_eq_true c3;clear c3
  by_cases c4:(a0:Int).toNat≤35184372088832
  ·
   rw [if_pos c4] at H;have c4b0:=eq_true c4;have c4b1:=decide_eq_true c4;clear c4;obtain ⟨y179,hy179⟩: ∃ y_:List Int,y_=(List.replicate (a0:Int).toNat 0):=⟨_,rfl⟩
   replace H:(Q8.l0 k a0 l1 0 y179)=some r:=by first|(rw [hy179];with_reducible exact H)|(have H2_:=(Option.bind_some _ _).symm.trans H;rw [hy179];with_reducible exact H2_)|(have H2_:=(Option.bind_some _ _).symm.trans H;with_reducible exact H2_)|with_reducible exact H|(rw [hy179];exact H)|exact H
   have Ny179:=Aside0.mk hy179;clear hy179;have H':=Aside0.mk H;clear H;go_enter Tryz.func163,Tryz.ntmps163;go_wp2_with (first|(refine bE (N:=4) (cs:= #[.slice none 0 0]) (t:=26) ?_;intro gb178 hg w5 hbox hb;have BK178:=Aside0.mk (hbox);have GW178:=Aside0.mk ((by rw [hg];exact (Qd (uB HB)):w.heap.size≤gb178));have GE178:=GW178;replace HB:=Aside0.mk (Qc (uB HB) hb);clear hb hbox hg)|((with_reducible refine Qbl (N:=10) rfl ?_);refine Kd.R_make (Kd.int .i64) _ 3 rfl (N:=10) rfl 24 _ _ rfl a0 rfl rfl Tryz.underlying24 (.int .i64 0) 8 Qdv rfl (by decide) (by omega) 0 (ok:=fun _=>True) (okp:=fun _=>True) rfl (fun _ hk=>hk) trivial (of_decide_eq_true (by first|(with_reducible assumption)|assumption)) (Nat.le_trans (Nat.mul_le_mul_right _ (of_decide_eq_true (by first|(with_reducible assumption)|assumption):a0.toNat≤35184372088832)) (by omega)) (Below.refl _ _) (Nat.le_refl _) ?_;intro v180 w6 ho7 hb hg_ hnew_;clear hg_ hnew_;(first|rw [←Ny179.out] at ho7|(simp only [Int.reduceToNat] at ho7;rw [←Ny179.out] at ho7));have HO181:=Aside0.mk (Kd.R_lower ho7 (Qd (vB HB)));replace BK178:=Aside0.mk (Qb (uK BK178) hb);replace HB:=Aside0.mk (Qc (vB HB) hb);clear hb ho7;obtain ⟨Ao8,co8,eo8⟩:=Kd.R_slice HO181.out;subst eo8)|(refine bE (N:=5) (cs:= #[.slice none 0 0]) (t:=26) ?_;intro gb182 hg w9 hbox hb;replace HO181:=Aside0.mk (Kd.R_below (uR HO181) hb);have BK182:=Aside0.mk (hbox);have GW182:=Aside0.mk ((by rw [hg];exact (Qd (vB HB)):w.heap.size≤gb182));have GE182:=GW182;replace HB:=Aside0.mk (Qc (vB HB) hb);have NB178_182:=Aside0.mk ((by rw [hg];exact Nat.ne_of_lt (Qt (uK BK178)):gb178≠gb182));have NB182_178:=Aside0.mk ((by rw [hg];exact Nat.ne_of_gt (Qt (uK BK178)):gb182≠gb178));replace BK178:=Aside0.mk (Qb (uK BK178) hb);clear hb hbox hg;have hnb10:=NB182_178.out;have hnc10:=NB178_182.out;have hcz11_0:=bC BK182;have hfz11_0:=Qe BK182.out 0))
   go_loopg [6] k (fun kq v6 w'=> ∃ (x6_1:Int) (x183000_1:List Int) (u183000:Value),v6= .int .i64 x6_1∧Aside0 (Q8.l0 kq a0 l1 x6_1 x183000_1=some r)∧Aside0 (kq≤k)∧Aside0 (Kd.R (Kd.int .i64) 3 w' w.heap.size (fun _=>True) u183000 x183000_1)∧Aside0 (w'.heap[gb178]? =some (.cells #[(.slice none 0 0)] 26 (0,0)))∧Aside0 (w'.heap[gb182]? =some (.cells #[u183000] 26 (0,0)))∧Aside0 (Below w.heap.size w w'))
   case atStart=>exact ⟨(0),(y179),(.slice Ao8 y179.length co8),(by first|rfl|(simp;done)|(simp [*];done)),H',⟨Nat.le_refl _⟩,⟨by (with_reducible repeat (first|apply Kd.R_alloc|apply Kd.R_drewN|apply Kd.R_drew));exact Kd.R_mono (Kd.R_far (p:=⟨gb182,0,none⟩) (Kd.R_types HO181.out BK182.out (by decide)) (fun _ hk=>hk.2) (.slice Ao8 y179.length co8)) (fun _ hk=>trivial)⟩,⟨kF⟩,⟨bP⟩,⟨(vB HB)⟩⟩
   case round=>
    clear H'
    try clear c3b0 c3b1 c4b0 c4b1 hcz11_0 hfz11_0
    obtain ⟨x6_1,x183000_1,u183000,rfl,HA,HK1,HO_183000,BK178,BK182,HB⟩:=hrel;cases gk with
    |zero=>exact absurd HA.out (by simp [Q8.l0])
    |succ k1=>
     have H:=HA.out;clear HA;simp only [Q8.l0] at H
     by_cases c12:x6_1<a0
     ·
      rw [if_pos c12] at H;have c12b0:=decide_eq_true c12;clear c12;have H':=Aside0.mk H;clear H;go_wp2
      go_loopg [19] k1 (fun kq v19 w'=> ∃ (x19_2:Int) (x183000_2:List Int) (u183000:Value),v19= .int .i64 x19_2∧Aside0 (Q8.l1 kq a0 l1 x6_1 l1 (l1.length:Int) x19_2 x183000_2=some r)∧Aside0 (kq≤k1)∧Aside0 (Kd.R (Kd.int .i64) 3 w' w.heap.size (fun _=>True) u183000 x183000_2)∧Aside0 (w'.heap[gb178]? =some (.cells #[(.slice none 0 0)] 26 (0,0)))∧Aside0 (w'.heap[gb182]? =some (.cells #[u183000] 26 (0,0)))∧Aside0 (Below w.heap.size w w'))
      case atStart=>exact ⟨(0),(x183000_1),(u183000),(by first|rfl|(simp;done)|(simp [*];done)),H',⟨Nat.le_refl _⟩,⟨uR HO_183000⟩,⟨uK BK178⟩,⟨uK BK182⟩,⟨(vB HB)⟩⟩
      case round=>
       clear H'
       try clear c12b0
       obtain ⟨x19_2,x183000_2,u183000,rfl,HA,HK2,HO_183000,BK178,BK182,HB⟩:=hrel;cases gk with
       |zero=>exact absurd HA.out (by simp [Q8.l1])
       |succ k2=>
        have H:=HA.out;clear HA;simp only [Q8.l1] at H
        by_cases c13:x19_2<(l1.length:Int)
        ·
         rw [if_pos c13] at H;have c13b0:=decide_eq_true c13;clear c13
         by_cases c14:0≤x19_2
         ·
          rw [if_pos c14] at H;have c14b0:=decide_eq_true c14;clear c14
          by_cases c15:x19_2<(l1.length:Int)
          ·
           rw [if_pos c15] at H;have c15b0:=decide_eq_true c15;clear c15
           by_cases c16:1<((Qu l1 x19_2).length:Int)
           ·
            rw [if_pos c16] at H;have c16b0:=decide_eq_true c16;have c16b1:decide (1<(Qu l1 x19_2).length)=true:=decide_eq_true (by omega);clear c16
            by_cases c17:(rd (Qu l1 x19_2) 1)=x6_1
            ·
             rw [if_pos c17] at H;have c17b0:((rd (Qu l1 x19_2) 1)==x6_1)=true:=beq_iff_eq.mpr c17;have c17b1:((rd (Qu l1 x19_2) 1) !=x6_1)=false:=bne_eq_false_iff_eq.mpr c17;clear c17
             by_cases c18:0≤x6_1
             ·
              rw [if_pos c18] at H;have c18b0:=decide_eq_true c18;clear c18
              by_cases c19:x6_1<(x183000_2.length:Int)
              ·
               rw [if_pos c19] at H;have c19b0:=decide_eq_true c19;clear c19
               by_cases c20:0<((Qu l1 x19_2).length:Int)
               ·
                rw [if_pos c20] at H;have c20b0:=decide_eq_true c20;have c20b1:decide (0<(Qu l1 x19_2).length)=true:=decide_eq_true (by omega);clear c20
                by_cases c21:0≤(rd (Qu l1 x19_2) 0)
                ·
                 rw [if_pos c21] at H;have c21b0:=eq_true c21;have c21b1:=decide_eq_true c21;clear c21;obtain ⟨ji22,hji22⟩: ∃ j_:Int,(shl .i64 1 (rd (Qu l1 x19_2) 0))=j_:=⟨_,rfl⟩
                 replace H:(if (rd (Qu l1 x19_2) 0)<(x183000_2.length:Int) then (Q8.l1 k2 a0 l1 x6_1 l1 (l1.length:Int) (wrap64 (x19_2+1)) (x183000_2.set (x6_1:Int).toNat (Go.bits .or .i64 (rd x183000_2 x6_1) (Go.bits .or .i64 (ji22) (rd x183000_2 (rd (Qu l1 x19_2) 0)))))) else (none))=some r:=by first|(rw [hji22] at H;exact H)|(simp only [hji22] at H ⊢;exact H)
                 have hji22_:(IntKind.i64.wrap (1*2 ^ min (rd (Qu l1 x19_2) 0).toNat 64))=ji22:=hji22;have hji22z:(rd (Qu l1 x19_2) 0)≤64→(IntKind.i64.wrap (1*2 ^ (rd (Qu l1 x19_2) 0).toNat))=ji22:=Qd2 hji22;have hji22u:(IntKind.i64.wrap (2 ^ min (rd (Qu l1 x19_2) 0).toNat 64))=ji22:=by have h_:=hji22_;rw [Int.one_mul] at h_;exact h_
                 have hji22v:(rd (Qu l1 x19_2) 0)≤64→(IntKind.i64.wrap (2 ^ (rd (Qu l1 x19_2) 0).toNat))=ji22:=fun hle_=>by have h_:=hji22z hle_;rw [Int.one_mul] at h_;exact h_
                 have hji22y:(wrap64 (1*2 ^ min (rd (Qu l1 x19_2) 0).toNat 64))=ji22:=(Qcw _).symm.trans hji22_;have hji22x:(rd (Qu l1 x19_2) 0)≤64→(wrap64 (1*2 ^ (rd (Qu l1 x19_2) 0).toNat))=ji22:=fun h_=>(Qcw _).symm.trans (hji22z h_)
                 by_cases c23:(rd (Qu l1 x19_2) 0)<(x183000_2.length:Int)
                 ·
                  rw [if_pos c23] at H;have c23b0:=decide_eq_true c23;clear c23;obtain ⟨y189,hy189⟩: ∃ y_:List Int,y_=(x183000_2.set (x6_1:Int).toNat (Go.bits .or .i64 (rd x183000_2 x6_1) (Go.bits .or .i64 (ji22) (rd x183000_2 (rd (Qu l1 x19_2) 0))))):=⟨_,rfl⟩
                  replace H:(Q8.l1 k2 a0 l1 x6_1 l1 (l1.length:Int) (wrap64 (x19_2+1)) y189)=some r:=by first|(rw [hy189];with_reducible exact H)|(have H2_:=(Option.bind_some _ _).symm.trans H;rw [hy189];with_reducible exact H2_)|(have H2_:=(Option.bind_some _ _).symm.trans H;with_reducible exact H2_)|with_reducible exact H|(rw [hy189];exact H)|exact H
                  have Ny189:=Aside0.mk hy189;clear hy189;have H':=Aside0.mk H;clear H;have p183:0≤(x19_2:Int):=of_decide_eq_true (by first|(with_reducible assumption)|assumption);have q183:x19_2<(l1.length:Int):=of_decide_eq_true (by first|(with_reducible assumption)|assumption);obtain ⟨ad183,A183_0,c183_0,e183,hx183_0,hl183_0,hi183_0⟩:=Qfg HR1.out x19_2 p183 q183;cases e183;replace hx183_0:=(HB.out.cell (World.block_lt_of_cell? w _ hx183_0)).trans hx183_0;have HR183_0:=Aside0.mk hi183_0;have HC183_0:=Aside0.mk hl183_0;clear hi183_0 hl183_0;replace p183:=eq_true p183;replace q183:=eq_true q183;have p184:0≤(1:Int):=(by omega)
                  have q184:1<((Qu l1 x19_2).length:Int):=of_decide_eq_true (by first|(with_reducible assumption)|assumption);obtain ⟨ad184,e184,hx184_0⟩:=Kd.at_int HR183_0.out 1 p184 q184;cases e184
                  (try simp only [show (1:Int).toNat=1 from rfl,Nat.reduceMul,Nat.reduceEqDiff,Go.Addr.add,↓reduceIte] at hx184_0)
                  have qi184:(1<(Qu l1 x19_2).length)=True:=eq_true (by omega)
                  (try rw [show ((1:Int)).toNat=1 from rfl] at hx184_0)
                  replace hx184_0:=(HB.out.cell (World.block_lt_of_cell? w _ hx184_0)).trans hx184_0;replace p184:=eq_true p184;replace q184:=eq_true q184
                  try go_wp2
                  replace HO_183000:=Aside0.mk (Kd.R_drew HO_183000.out);replace BK178:=Aside0.mk (Qs BK178.out);replace BK182:=Aside0.mk (Qs BK182.out);replace HB:=Aside0.mk (Qm HB.out);obtain ⟨Ao26,co26,eo26⟩:=Kd.R_slice HO_183000.out
                  (first|subst eo26|(injection eo26 with f1_ f2_ f3_;have f4_:=f1_.symm;have f5_:=f3_.symm;clear f1_ f2_ f3_;subst f4_;subst f5_))
                  have p185:0≤(x6_1:Int):=of_decide_eq_true (by first|(with_reducible assumption)|assumption);have q185:x6_1<(x183000_2.length:Int):=of_decide_eq_true (by first|(with_reducible assumption)|assumption);obtain ⟨ad185,e185,hx185_0⟩:=Kd.at_int (Kd.R_reads' HO_183000.out).2.2 x6_1 p185 q185;cases e185;replace p185:=eq_true p185;replace q185:=eq_true q185;have p186:0≤(0:Int):=(by omega)
                  have q186:0<((Qu l1 x19_2).length:Int):=of_decide_eq_true (by first|(with_reducible assumption)|assumption);obtain ⟨ad186,e186,hx186_0⟩:=Kd.at_int HR183_0.out 0 p186 q186;have hw186_0:=hx186_0
                  (try rw [show ((0:Int)).toNat=0 from rfl] at hw186_0)
                  (try rw [show 0*1=0 from rfl] at hw186_0)
                  (try rw [Addr.add_zero'] at hw186_0)
                  obtain rfl:ad184=ad186:=(by injection e186)
                  have qi186:(0<(Qu l1 x19_2).length)=True:=eq_true (by omega)
                  (try rw [show ((0:Int)).toNat=0 from rfl] at hx186_0)
                  (try rw [Addr.add_zero'] at hx186_0)
                  replace hx186_0:=(HB.out.cell (World.block_lt_of_cell? w _ hx186_0)).trans hx186_0;replace p186:=eq_true p186;replace q186:=eq_true q186;have p187:0≤(0:Int):=(by omega)
                  have q187:0<((Qu l1 x19_2).length:Int):=of_decide_eq_true (by first|(with_reducible assumption)|assumption);obtain ⟨ad187,e187,hx187_0⟩:=Kd.at_int HR183_0.out 0 p187 q187;have hw187_0:=hx187_0
                  (try rw [show ((0:Int)).toNat=0 from rfl] at hw187_0)
                  (try rw [show 0*1=0 from rfl] at hw187_0)
                  (try rw [Addr.add_zero'] at hw187_0)
                  obtain rfl:ad184=ad187:=(by injection e187)
                  have qi187:(0<(Qu l1 x19_2).length)=True:=eq_true (by omega)
                  (try rw [show ((0:Int)).toNat=0 from rfl] at hx187_0)
                  (try rw [Addr.add_zero'] at hx187_0)
                  replace hx187_0:=(HB.out.cell (World.block_lt_of_cell? w _ hx187_0)).trans hx187_0;replace p187:=eq_true p187;replace q187:=eq_true q187;have p188:0≤((rd (Qu l1 x19_2) 0):Int):=of_decide_eq_true (by first|(with_reducible assumption)|assumption);have q188:(rd (Qu l1 x19_2) 0)<(x183000_2.length:Int):=of_decide_eq_true (by first|(with_reducible assumption)|assumption);obtain ⟨ad188,e188,hx188_0⟩:=Kd.at_int (Kd.R_reads' HO_183000.out).2.2 (rd (Qu l1 x19_2) 0) p188 q188;obtain rfl:ad185=ad188:=(by injection e188)
                  replace p188:=eq_true p188;replace q188:=eq_true q188;have p24:0≤(x6_1:Int):=of_decide_eq_true (by first|(with_reducible assumption)|assumption);have q24:(x6_1:Int)<((x183000_2.length:Int):Int):=of_decide_eq_true (by first|(with_reducible assumption)|assumption);obtain ⟨go24,co24,eo24,gb24,gl24,cl24,HG24⟩:=Kd.R_form HO_183000.out (by omega)
                  (first|cases eo24|(injection eo24 with ea_ en_ ec_;(first|subst ea_|(injection ea_ with ea_;subst ea_));subst ec_;clear en_))
                  have GB24:=Aside0.mk gb24;have GG24:=Aside0.mk HG24;clear gb24 gl24 HG24
                  (first|simp only [Qe9] at hx185_0|skip)
                  (first|simp only [Qe9] at hx188_0|skip)
                  obtain ⟨hx24_0,hf24_0⟩:=Kd.R_celln 0 HO_183000.out (x6_1:Int) p24 q24;replace p24:=eq_true p24;replace q24:=eq_true q24;have HP27:=Kd.R_putn HO_183000.out (x6_1:Int) (Go.bits .or .i64 (rd x183000_2 x6_1) (Go.bits .or .i64 (ji22) (rd x183000_2 (rd (Qu l1 x19_2) 0))));rw [←Ny189.out] at HP27;have HQ27:=Aside0.mk HP27;clear HP27;refine sU (n:=20) (S:=fun w'=>w'.cell? ⟨gb182,0,none⟩=some (.slice (some ⟨go24,0,none⟩) x183000_2.length co26)∧w'.cell? ⟨go24,(x6_1).toNat,none⟩=some (.int .i64 (rd x183000_2 x6_1))∧w'.cell? ad184=some (.int .i64 (rd (Qu l1 x19_2) 0))∧w'.cell? ad184=some (.int .i64 (rd (Qu l1 x19_2) 0))∧w'.cell? ⟨go24,((rd (Qu l1 x19_2) 0)).toNat,none⟩=some (.int .i64 (rd x183000_2 (rd (Qu l1 x19_2) 0)))) (ds:= [19]) ⟨(Qb6 BK182.out 0).trans rfl,hx185_0,((HB.out.cell (World.block_lt_of_cell? w _ hw186_0)).trans hw186_0),((HB.out.cell (World.block_lt_of_cell? w _ hw187_0)).trans hw187_0),hx188_0⟩ (fun hHeld=> ?_);refine Qfe Q8.tab9 Q8.bits9 (fun HT_ HW_=> ?_);generalize wr.drew=w25 at HO_183000 BK178 BK182 HB GG24 HQ27 hf24_0 hx185_0 hx186_0 hx187_0 hx188_0 hx24_0 hHeld ⊢;refine pU 0 28 ?_;refine pU 2 30 ?_;refine pU 5 33 ?_;refine pU 6 34 ?_;refine pU 9 37 ?_;refine pU 11 39 ?_;refine pU 12 40 ?_;refine take_ (i:=1) (N:=some 29) (v:= ?_) (a':= ?_) #[true,true,true,false,false,true,true,false,false,true,false,true,true,false,false,false,false,false,false,false] rfl rfl (Qe8 HT_.out HW_.out (by kernel_rfl)) (fun _ _ _ h=>h) (Or.inl ⟨by rfl,?_⟩) hHeld ?_ ?_;rotate_left
                  ·
                   rintro w' ⟨s0,s1,s2,s3,s4⟩;go_simp
                   with_reducible rfl
                  rotate_left
                  ·
                   simp only [Act.put,List.setIfInBounds_toArray,List.set_cons_zero,List.set_cons_succ,Qcw,Qed];rfl
                  refine pU 3 31 ?_;refine take_ (i:=4) (N:=some 32) (v:= ?_) (a':= ?_) #[true,true,true,true,true,true,true,false,false,true,false,true,true,false,false,false,false,false,false,false] rfl rfl (Qe8 HT_.out HW_.out (by kernel_rfl)) (fun _ _ _ h=>h) (Or.inl ⟨by rfl,?_⟩) hHeld ?_ ?_;rotate_left
                  ·
                   rintro w' ⟨s0,s1,s2,s3,s4⟩;go_simp
                   with_reducible rfl
                  rotate_left
                  ·
                   simp only [Act.put,List.setIfInBounds_toArray,List.set_cons_zero,List.set_cons_succ,Qcw,Qed];rfl
                  refine take_ (i:=7) (N:=some 35) (v:= ?_) (a':= ?_) #[true,true,true,true,true,true,true,true,false,true,false,true,true,false,false,false,false,false,false,false] rfl rfl (Qe8 HT_.out HW_.out (by kernel_rfl)) (fun _ _ _ h=>h) (Or.inl ⟨by rfl,?_⟩) hHeld ?_ ?_;rotate_left
                  ·
                   rintro w' ⟨s0,s1,s2,s3,s4⟩;go_simp
                   with_reducible rfl
                  rotate_left
                  ·
                   simp only [Act.put,List.setIfInBounds_toArray,List.set_cons_zero,List.set_cons_succ,Qcw,Qed];rfl
                  refine pU 8 36 ?_;refine take_ (i:=10) (N:=some 38) (v:= ?_) (a':= ?_) #[true,true,true,true,true,true,true,true,true,true,true,true,true,false,false,false,false,false,false,false] rfl rfl (Qe8 HT_.out HW_.out (by kernel_rfl)) (fun _ _ _ h=>h) (Or.inl ⟨by rfl,?_⟩) hHeld ?_ ?_;rotate_left
                  ·
                   rintro w' ⟨s0,s1,s2,s3,s4⟩;go_simp
                   with_reducible rfl
                  rotate_left
                  ·
                   simp only [Act.put,List.setIfInBounds_toArray,List.set_cons_zero,List.set_cons_succ,Qcw,Qed];rfl
                  refine take_ (i:=13) (N:=some 41) (v:= ?_) (a':= ?_) #[true,true,true,true,true,true,true,true,true,true,true,true,true,true,false,false,false,false,false,false] rfl rfl (Qe8 HT_.out HW_.out (by kernel_rfl)) (fun _ _ _ h=>h) (Or.inl ⟨by rfl,?_⟩) hHeld ?_ ?_;rotate_left
                  ·
                   rintro w' ⟨s0,s1,s2,s3,s4⟩;go_simp
                   with_reducible rfl
                  rotate_left
                  ·
                   simp only [Act.put,List.setIfInBounds_toArray,List.set_cons_zero,List.set_cons_succ,Qcw,Qed];rfl
                  refine pU 14 42 ?_;refine take_ (i:=15) (N:=some 43) (v:= ?_) (a':= ?_) #[true,true,true,true,true,true,true,true,true,true,true,true,true,true,true,true,false,false,false,false] rfl rfl (Qe8 HT_.out HW_.out (by kernel_rfl)) (fun _ _ _ h=>h) (Or.inl ⟨by rfl,?_⟩) hHeld ?_ ?_;rotate_left
                  ·
                   rintro w' ⟨s0,s1,s2,s3,s4⟩;go_simp
                   with_reducible rfl
                  rotate_left
                  ·
                   simp only [Act.put,List.setIfInBounds_toArray,List.set_cons_zero,List.set_cons_succ,Qcw,Qed];rfl
                  refine pU 16 44 ?_;refine pU 17 45 ?_;refine pU 18 46 ?_;refine lU 19 none fun K hK=> ?_
                  refine sK ?_;refine hK.out _ _ ?_;clear hK K;refine dU ?_
                  try go_wp2
                  go_roundg k2
                  case measure=>have:=HK1.out;have:=HK2.out;omega
                  case rel=>exact ⟨(wrap64 (x19_2+1)),(y189),(.slice (some ⟨go24,0,none⟩) x183000_2.length co26),(by first|rfl|(simp;done)|(simp [*];done)),H',⟨by have:=HK1.out;have:=HK2.out;omega⟩,⟨uR HQ27⟩,⟨by (with_reducible repeat (first|refine Qq ?_ _|refine Qs ?_|refine Qp ?_ _));refine Qem ?_ (by have h_:=Kd.R_ne HO_183000.out BK178.out (by decide);intro e_;exact h_ (by rw [e_];rfl)) _;(with_reducible repeat (first|refine Qq ?_ _|refine Qs ?_|refine Qp ?_ _));exact BK178.out⟩,⟨by (with_reducible repeat (first|refine Qq ?_ _|refine Qs ?_|refine Qp ?_ _));refine Qem ?_ (by have h_:=Kd.R_ne HO_183000.out BK182.out (by decide);intro e_;exact h_ (by rw [e_];rfl)) _;(with_reducible repeat (first|refine Qq ?_ _|refine Qs ?_|refine Qp ?_ _));exact BK182.out⟩,⟨(vB HB)⟩⟩
                 ·
                  rw [if_neg c23] at H;exact absurd H (by simp)
                ·
                 rw [if_neg c21] at H;exact absurd H (by simp)
               ·
                rw [if_neg c20] at H;exact absurd H (by simp)
              ·
               rw [if_neg c19] at H;exact absurd H (by simp)
             ·
              rw [if_neg c18] at H;exact absurd H (by simp)
            ·
             rw [if_neg c17] at H;have c17b0:((rd (Qu l1 x19_2) 1)==x6_1)=false:=beq_eq_false_iff_ne.mpr c17;have c17b1:((rd (Qu l1 x19_2) 1) !=x6_1)=true:=bne_iff_ne.mpr c17;have H':=Aside0.mk H;clear H;have p183:0≤(x19_2:Int):=of_decide_eq_true (by first|(with_reducible assumption)|assumption);have q183:x19_2<(l1.length:Int):=of_decide_eq_true (by first|(with_reducible assumption)|assumption);obtain ⟨ad183,A183_0,c183_0,e183,hx183_0,hl183_0,hi183_0⟩:=Qfg HR1.out x19_2 p183 q183;cases e183;replace hx183_0:=(HB.out.cell (World.block_lt_of_cell? w _ hx183_0)).trans hx183_0;have HR183_0:=Aside0.mk hi183_0;have HC183_0:=Aside0.mk hl183_0;clear hi183_0 hl183_0;replace p183:=eq_true p183;replace q183:=eq_true q183;have p184:0≤(1:Int):=(by omega)
             have q184:1<((Qu l1 x19_2).length:Int):=of_decide_eq_true (by first|(with_reducible assumption)|assumption);obtain ⟨ad184,e184,hx184_0⟩:=Kd.at_int HR183_0.out 1 p184 q184;cases e184
             (try simp only [show (1:Int).toNat=1 from rfl,Nat.reduceMul,Nat.reduceEqDiff,Go.Addr.add,↓reduceIte] at hx184_0)
             have qi184:(1<(Qu l1 x19_2).length)=True:=eq_true (by omega)
             (try rw [show ((1:Int)).toNat=1 from rfl] at hx184_0)
             replace hx184_0:=(HB.out.cell (World.block_lt_of_cell? w _ hx184_0)).trans hx184_0;replace p184:=eq_true p184;replace q184:=eq_true q184;go_wp2;go_roundg k2
             case measure=>have:=HK1.out;have:=HK2.out;omega
             case rel=>exact ⟨(wrap64 (x19_2+1)),(x183000_2),(u183000),(by first|rfl|(simp;done)|(simp [*];done)),H',⟨by have:=HK1.out;have:=HK2.out;omega⟩,⟨uR HO_183000⟩,⟨uK BK178⟩,⟨uK BK182⟩,⟨(vB HB)⟩⟩
           ·
            rw [if_neg c16] at H;exact absurd H (by simp)
          ·
           rw [if_neg c15] at H;exact absurd H (by simp)
         ·
          rw [if_neg c14] at H;exact absurd H (by simp)
        ·
         rw [if_neg c13] at H;have c13b0:=decide_eq_false c13;clear c13;have H':=Aside0.mk H;clear H;go_wp2;go_roundg k2
         case measure=>have:=HK1.out;have:=HK2.out;omega
         case rel=>exact ⟨(wrap64 (x6_1+1)),(x183000_2),(u183000),(by first|rfl|(simp;done)|(simp [*];done)),H',⟨by have:=HK1.out;have:=HK2.out;omega⟩,⟨uR HO_183000⟩,⟨uK BK178⟩,⟨uK BK182⟩,⟨(vB HB)⟩⟩
     ·
      rw [if_neg c12] at H;have c12b0:=decide_eq_false c12;clear c12;obtain rfl:=Option.some.inj H;have hnb28:=NB182_178.out;have hnc28:=NB178_182.out;have hcz29_0:=bC BK182;have hfz29_0:=Qe BK182.out 0;obtain ⟨Ao30,co30,eo30⟩:=Kd.R_slice HO_183000.out;subst eo30;have hcz31_0:=bC BK178;have hfz31_0:=Qe BK178.out 0;go_wp2;refine bodyPost_ret (results_cell_row rfl _ _ gb178 26 #[.slice Ao30 x183000_1.length co30] (0,0) _ rfl bP Tryz.underlying26 rfl (by kernel_rfl)) rfl ?_;exact ⟨_,by first|rfl|(simp [Qf,Qg] <;>rfl)|(simp [*,Qf,Qg] <;>rfl),by (with_reducible repeat (first|apply Kd.R_alloc|apply Kd.R_drewN|apply Kd.R_drew));exact Kd.R_mono (Kd.R_far (p:=⟨gb178,0,none⟩) (Kd.R_types HO_183000.out BK178.out (by decide)) (fun _ hk=>hk.2) (.slice Ao30 x183000_1.length co30)) (fun _ hk=>trivial),(vB HB)⟩
  ·
   rw [if_neg c4] at H;exact absurd H (by simp)
 ·
  rw [if_neg c3] at H;exact absurd H (by simp)
mutual
def Q1.l0 : Nat → Int → Int → List (List Int) → Int → Option (List Int)
 |0,_,_,_,_=>none
 |k+1,x0,x1,x5,x6=>if x6<x0 then (Q1.l1 k x0 x1 x5 x6 0) else ((Q8.f k (wrap64 (x0*x1)) x5).bind fun t191=>(some t191))
def Q1.l1 : Nat → Int → Int → List (List Int) → Int → Int → Option (List Int)
 |0,_,_,_,_,_=>none
 |k+1,x0,x1,x5,x6,x7=>if x7<x1 then (if (wrap64 (x6+1))<x0 then (if x5.length<5864062014805 then ((some (x5++ [(([wrap64 ((wrap64 (x1*x6))+x7),wrap64 ((wrap64 ((wrap64 (x1*x6))+x1))+x7)] :List Int))] :List (List Int))).bind fun y197=>(if (wrap64 (x7+1))<x1 then (if y197.length<5864062014805 then (Q1.l1 k x0 x1 (y197++ [(([wrap64 ((wrap64 (x1*x6))+x7),wrap64 ((wrap64 ((wrap64 (x1*x6))+x7))+1)] :List Int))]) x6 (wrap64 (x7+1))) else (none)) else (Q1.l1 k x0 x1 y197 x6 (wrap64 (x7+1))))) else (none)) else (if (wrap64 (x7+1))<x1 then (if x5.length<5864062014805 then (Q1.l1 k x0 x1 (x5++ [(([wrap64 ((wrap64 (x1*x6))+x7),wrap64 ((wrap64 ((wrap64 (x1*x6))+x7))+1)] :List Int))]) x6 (wrap64 (x7+1))) else (none)) else (Q1.l1 k x0 x1 x5 x6 (wrap64 (x7+1))))) else (Q1.l0 k x0 x1 x5 (wrap64 (x6+1)))
end
def Q1.f (k : Nat) (a0 : Int) (a1 : Int) : Option (List Int) := Q1.l0 k a0 a1 ([] : List (List Int)) 0
theorem Q1.mono_l : ∀ k, (∀ y0 y1 y2 y3, LeO (Q1.l0 k y0 y1 y2 y3) (Q1.l0 (k + 1) y0 y1 y2 y3)) ∧ (∀ y0 y1 y2 y3 y4, LeO (Q1.l1 k y0 y1 y2 y3 y4) (Q1.l1 (k + 1) y0 y1 y2 y3 y4))
 |0=>⟨fun _ _ _ _ r h=>by simp [Q1.l0] at h,fun _ _ _ _ _ r h=>by simp [Q1.l1] at h⟩
 |k+1=>by
  obtain ⟨ih0,ih1⟩:=Q1.mono_l k;refine ⟨?_,?_⟩
  all_goals
   intros
   first|unfold Q1.l0|unfold Q1.l1
   repeat' (with_reducible first|apply ih0|apply ih1|apply Q8.mono|exact LeO.refl _|exact LeO.none _|refine LeO.ite ?_ ?_|refine LeO.bind ?_ (fun _=> ?_))
theorem Q1.mono : ∀ a0 a1 k, LeO (Q1.f k a0 a1) (Q1.f (k + 1) a0 a1) := by
 intro a0 a1 k;obtain ⟨ih0,ih1⟩:=Q1.mono_l k;unfold Q1.f
 repeat' (with_reducible first|apply ih0|apply ih1|apply Q8.mono|exact LeO.refl _|exact LeO.none _|refine LeO.ite ?_ ?_|refine LeO.bind ?_ (fun _=> ?_))
set_option maxHeartbeats 8000000 in
set_option maxRecDepth 100000 in
theorem Q1.calls (k : Nat) (a0 : Int) (a1 : Int) (r : List Int) (w : World) (h : Q1.f k a0 a1 = some r) :
 Calls Tryz.prog 209 #[.int .i64 a0, .int .i64 a1] w fun e w'=> ∃ v0_:Value,e= .returned (.agg #[v0_])∧Kd.R (Kd.int .i64) 3 w' w.heap.size (fun _=>True) v0_ r∧Below w.heap.size w w':=by
 have hu26:=Tryz.underlying26;have HB:=Aside0.mk (Below.refl w.heap.size w);have H:(Q1.l0 k a0 a1 ([] :List (List Int)) 0)=some r:=h;clear h;have H':=Aside0.mk H;clear H;go_enter Tryz.func209,Tryz.ntmps209;go_wp2_with (first|(refine bE (N:=4) (cs:= #[.slice none 0 0]) (t:=26) ?_;intro gb190 hg w3 hbox hb;have BK190:=Aside0.mk (hbox);have GW190:=Aside0.mk ((by rw [hg];exact (Qd (uB HB)):w.heap.size≤gb190));have GE190:=GW190;replace HB:=Aside0.mk (Qc (uB HB) hb);clear hb hbox hg))
 go_loopg [5,6] k (fun kq v5 v6 w'=> ∃ (x5_1:List (List Int)) (x6_1:Int),v6= .int .i64 x6_1∧Aside0 (Q1.l0 kq a0 a1 x5_1 x6_1=some r)∧Aside0 (kq≤k)∧Aside0 (Kd.S (Kd.slice 3 (Kd.int .i64)) 24 w' w.heap.size (fun _=>True) v5 x5_1)∧Aside0 (w'.heap[gb190]? =some (.cells #[(.slice none 0 0)] 26 (0,0)))∧Aside0 (Below w.heap.size w w'))
 case atStart=>exact ⟨(([] :List (List Int))),(0),(by first|rfl|(simp;done)|(simp [*];done)),H',⟨Nat.le_refl _⟩,⟨by first|exact Kd.S_nil _ _ _ _ _|exact Kd.N_nil _ _ _ _ _|exact Kd.V_nil _ _ _ _ _|exact Kd.Q_nil _ _ _ _ _|exact Kd.R_nil _ _ _ _ _⟩,⟨uK BK190⟩,⟨(vB HB)⟩⟩
 case round=>
  clear H'
  skip
  obtain ⟨x5_1,x6_1,rfl,HA,HK1,HO_5,BK190,HB⟩:=hrel;cases gk with
  |zero=>exact absurd HA.out (by simp [Q1.l0])
  |succ k1=>
   have H:=HA.out;clear HA;simp only [Q1.l0] at H
   by_cases c4:x6_1<a0
   ·
    rw [if_pos c4] at H;have c4b0:=decide_eq_true c4;clear c4;have H':=Aside0.mk H;clear H;go_wp2
    go_loopg [5,7] k1 (fun kq v5 v7 w'=> ∃ (x5_2:List (List Int)) (x7_2:Int),v7= .int .i64 x7_2∧Aside0 (Q1.l1 kq a0 a1 x5_2 x6_1 x7_2=some r)∧Aside0 (kq≤k1)∧Aside0 (Kd.S (Kd.slice 3 (Kd.int .i64)) 24 w' w.heap.size (fun _=>True) v5 x5_2)∧Aside0 (w'.heap[gb190]? =some (.cells #[(.slice none 0 0)] 26 (0,0)))∧Aside0 (Below w.heap.size w w'))
    case atStart=>exact ⟨(x5_1),(0),(by first|rfl|(simp;done)|(simp [*];done)),H',⟨Nat.le_refl _⟩,⟨uS HO_5⟩,⟨uK BK190⟩,⟨(vB HB)⟩⟩
    case round=>
     clear H'
     try clear c4b0
     obtain ⟨x5_2,x7_2,rfl,HA,HK2,HO_5,BK190,HB⟩:=hrel;cases gk with
     |zero=>exact absurd HA.out (by simp [Q1.l1])
     |succ k2=>
      have H:=HA.out;clear HA;simp only [Q1.l1] at H
      by_cases c5:x7_2<a1
      ·
       rw [if_pos c5] at H;have c5b0:=decide_eq_true c5;clear c5
       by_cases c6:(wrap64 (x6_1+1))<a0
       ·
        rw [if_pos c6] at H;have c6b0:=decide_eq_true c6;clear c6;obtain ⟨y194,hy194⟩: ∃ y_:List Int,y_=(([wrap64 ((wrap64 (a1*x6_1))+x7_2),wrap64 ((wrap64 ((wrap64 (a1*x6_1))+a1))+x7_2)] :List Int)):=⟨_,rfl⟩
        replace H:(if x5_2.length<5864062014805 then ((some (x5_2++ [y194] :List (List Int))).bind fun y197=>(if (wrap64 (x7_2+1))<a1 then (if y197.length<5864062014805 then (Q1.l1 k2 a0 a1 (y197++ [(([wrap64 ((wrap64 (a1*x6_1))+x7_2),wrap64 ((wrap64 ((wrap64 (a1*x6_1))+x7_2))+1)] :List Int))]) x6_1 (wrap64 (x7_2+1))) else (none)) else (Q1.l1 k2 a0 a1 y197 x6_1 (wrap64 (x7_2+1))))) else (none))=some r:=by first|(rw [hy194];with_reducible exact H)|(have H2_:=(Option.bind_some _ _).symm.trans H;rw [hy194];with_reducible exact H2_)|(have H2_:=(Option.bind_some _ _).symm.trans H;with_reducible exact H2_)|with_reducible exact H|(rw [hy194];exact H)|exact H
        have Ny194:=Aside0.mk hy194;clear hy194
        by_cases c7:x5_2.length<5864062014805
        ·
         rw [if_pos c7] at H;have LMc7:=Aside0.mk c7;clear c7;obtain ⟨y197,hy197⟩: ∃ y_:List (List Int),y_=(x5_2++ [y194]):=⟨_,rfl⟩
         replace H:(if (wrap64 (x7_2+1))<a1 then (if y197.length<5864062014805 then (Q1.l1 k2 a0 a1 (y197++ [(([wrap64 ((wrap64 (a1*x6_1))+x7_2),wrap64 ((wrap64 ((wrap64 (a1*x6_1))+x7_2))+1)] :List Int))]) x6_1 (wrap64 (x7_2+1))) else (none)) else (Q1.l1 k2 a0 a1 y197 x6_1 (wrap64 (x7_2+1))))=some r:=by first|(rw [hy197];with_reducible exact H)|(have H2_:=(Option.bind_some _ _).symm.trans H;rw [hy197];with_reducible exact H2_)|(have H2_:=(Option.bind_some _ _).symm.trans H;with_reducible exact H2_)|with_reducible exact H|(rw [hy197];exact H)|exact H
         have Ny197:=Aside0.mk hy197;clear hy197
         by_cases c8:(wrap64 (x7_2+1))<a1
         ·
          rw [if_pos c8] at H;have c8b0:=decide_eq_true c8;clear c8;obtain ⟨y200,hy200⟩: ∃ y_:List Int,y_=(([wrap64 ((wrap64 (a1*x6_1))+x7_2),wrap64 ((wrap64 ((wrap64 (a1*x6_1))+x7_2))+1)] :List Int)):=⟨_,rfl⟩
          replace H:(if y197.length<5864062014805 then (Q1.l1 k2 a0 a1 (y197++ [y200]) x6_1 (wrap64 (x7_2+1))) else (none))=some r:=by first|(rw [hy200];with_reducible exact H)|(have H2_:=(Option.bind_some _ _).symm.trans H;rw [hy200];with_reducible exact H2_)|(have H2_:=(Option.bind_some _ _).symm.trans H;with_reducible exact H2_)|with_reducible exact H|(rw [hy200];exact H)|exact H
          have Ny200:=Aside0.mk hy200;clear hy200
          by_cases c9:y197.length<5864062014805
          ·
           rw [if_pos c9] at H;have LMc9:=Aside0.mk c9;clear c9;obtain ⟨y203,hy203⟩: ∃ y_:List (List Int),y_=(y197++ [y200]):=⟨_,rfl⟩
           replace H:(Q1.l1 k2 a0 a1 y203 x6_1 (wrap64 (x7_2+1)))=some r:=by first|(rw [hy203];with_reducible exact H)|(have H2_:=(Option.bind_some _ _).symm.trans H;rw [hy203];with_reducible exact H2_)|(have H2_:=(Option.bind_some _ _).symm.trans H;with_reducible exact H2_)|with_reducible exact H|(rw [hy203];exact H)|exact H
           have Ny203:=Aside0.mk hy203;clear hy203;have H':=Aside0.mk H;clear H;go_wp2_with (first|((with_reducible refine Qbl (N:=35) rfl ?_);refine Kd.R_lit (Kd.int .i64) _ 3 ?hg (N:=35) ?hd (xs:=([wrap64 ((wrap64 (a1*x6_1))+x7_2),wrap64 ((wrap64 ((wrap64 (a1*x6_1))+a1))+x7_2)] :List Int)) (inner:= [.int .i64 (wrap64 ((wrap64 (a1*x6_1))+x7_2)), .int .i64 (wrap64 ((wrap64 ((wrap64 (a1*x6_1))+a1))+x7_2))]) (ok:=fun _=>True) (okp:=fun _=>True) ?hr ?hp (fun _ hk=>hk) trivial (Below.refl _ _) (Nat.le_refl _) (by simp) ?_;(case hd=>rfl);(case hg=>rfl);(case hr=>first|(go_simp;done)|(go_simp;rfl));(case hp=>exact (Reps.one (show Kd.M (Kd.int .i64) _ _ _ (wrap64 ((wrap64 (a1*x6_1))+x7_2)) [.int .i64 (wrap64 ((wrap64 (a1*x6_1))+x7_2))] from rfl) (Reps.one (show Kd.M (Kd.int .i64) _ _ _ (wrap64 ((wrap64 ((wrap64 (a1*x6_1))+a1))+x7_2)) [.int .i64 (wrap64 ((wrap64 ((wrap64 (a1*x6_1))+a1))+x7_2))] from rfl) (Reps.none _ _))));intro v195 w10 ho11 hb hg_ hnew_;clear hg_ hnew_;(first|rw [←Ny194.out] at ho11|(simp only [Int.reduceToNat] at ho11;rw [←Ny194.out] at ho11));replace HO_5:=Aside0.mk (Kd.S_elder' (uS HO_5) (Kd.R_base ho11) hb);have HO196:=Aside0.mk (Kd.R_lower ho11 (Qd (vB HB)));replace BK190:=Aside0.mk (Qb (uK BK190) hb);replace HB:=Aside0.mk (Qc (vB HB) hb);clear hb ho11;obtain ⟨Ao13,co13,eo13⟩:=Kd.R_slice HO196.out;subst eo13)|((with_reducible refine Qb5 (b:= .append) (xs:= #[.tmp 22, .tmp 36]) rfl ?_);at_builtin;refine Kd.S_append (Kd.slice 3 (Kd.int .i64)) (w0:=w) w.heap.size rfl (.tmp 22) (.tmp 36) 40 24 (.slice none 0 0) 24 rfl Tryz.underlying40 Qe0 rfl (by decide) (by omega) u5 x5_2 y194 [.slice Ao13 y194.length co13] (fun _=>True) (fun k_=>some k_=(.slice Ao13 y194.length co13:Value).ownBlock) rfl rfl ?aP (fun k_ hk_=>((Kd.R_mono (ok':=fun k_=>((fun _=>True)) k_∧some k_≠(u5:Value).ownBlock) (Kd.R_apart' (HO196.out) (Kd.S_typed HO_5.out) (by decide)) (fun k_ hk=>⟨trivial,hk.2⟩))).1 k_ hk_.symm) ?aF ?aO ?aB ?aS ?aL ?_;(case aP=>exact Kd.M_row (Kd.R_mono (Kd.R_tight rfl (Kd.R_mono (ok':=fun k_=>((fun _=>True)) k_∧some k_≠(u5:Value).ownBlock) (Kd.R_apart' (HO196.out) (Kd.S_typed HO_5.out) (by decide)) (fun k_ hk=>⟨trivial,hk.2⟩))) (fun _ h_=>h_)));(case aB=>exact (vB HB));(case aF=>exact (fun _ _=>trivial));(case aO=>exact (by (with_reducible repeat (first|apply Kd.S_alloc|apply Kd.S_drewN|apply Kd.S_drew));exact Kd.S_mono HO_5.out (fun k_ hk=>⟨trivial,fun e_=>hk.2 e_⟩)));(case aS=>exact (Qd (vB HB)));(case aL=>have:=LMc7.out;omega);intro v198 w12 ho hb hg hat;rw [←Ny197.out] at ho;replace BK190:=Aside0.mk (Qdq (uK BK190) hg (Kd.S_ne HO_5.out BK190.out (by decide)));replace HB:=Aside0.mk (hb);have HO199:=Aside0.mk (ho);clear HO_5 HO196;clear ho hb hg hat)|((with_reducible refine Qbl (N:=54) rfl ?_);refine Kd.R_lit (Kd.int .i64) _ 3 ?hg (N:=54) ?hd (xs:=([wrap64 ((wrap64 (a1*x6_1))+x7_2),wrap64 ((wrap64 ((wrap64 (a1*x6_1))+x7_2))+1)] :List Int)) (inner:= [.int .i64 (wrap64 ((wrap64 (a1*x6_1))+x7_2)), .int .i64 (wrap64 ((wrap64 ((wrap64 (a1*x6_1))+x7_2))+1))]) (ok:=fun _=>True) (okp:=fun _=>True) ?hr ?hp (fun _ hk=>hk) trivial (Below.refl _ _) (Nat.le_refl _) (by simp) ?_;(case hd=>rfl);(case hg=>rfl);(case hr=>first|(go_simp;done)|(go_simp;rfl));(case hp=>exact (Reps.one (show Kd.M (Kd.int .i64) _ _ _ (wrap64 ((wrap64 (a1*x6_1))+x7_2)) [.int .i64 (wrap64 ((wrap64 (a1*x6_1))+x7_2))] from rfl) (Reps.one (show Kd.M (Kd.int .i64) _ _ _ (wrap64 ((wrap64 ((wrap64 (a1*x6_1))+x7_2))+1)) [.int .i64 (wrap64 ((wrap64 ((wrap64 (a1*x6_1))+x7_2))+1))] from rfl) (Reps.none _ _))));intro v201 w14 ho15 hb hg_ hnew_;clear hg_ hnew_;(first|rw [←Ny200.out] at ho15|(simp only [Int.reduceToNat] at ho15;rw [←Ny200.out] at ho15));replace HO199:=Aside0.mk (Kd.S_elder' (uS HO199) (Kd.R_base ho15) hb);have HO202:=Aside0.mk (Kd.R_lower ho15 (Qd (vB HB)));replace BK190:=Aside0.mk (Qb (uK BK190) hb);replace HB:=Aside0.mk (Qc (vB HB) hb);clear hb ho15;obtain ⟨Ao17,co17,eo17⟩:=Kd.R_slice HO202.out;subst eo17)|((with_reducible refine Qb5 (b:= .append) (xs:= #[.tmp 42, .tmp 55]) rfl ?_);at_builtin;refine Kd.S_append (Kd.slice 3 (Kd.int .i64)) (w0:=w) w.heap.size rfl (.tmp 42) (.tmp 55) 40 24 (.slice none 0 0) 24 rfl Tryz.underlying40 Qe0 rfl (by decide) (by omega) v198 y197 y200 [.slice Ao17 y200.length co17] (fun _=>True) (fun k_=>some k_=(.slice Ao17 y200.length co17:Value).ownBlock) rfl rfl ?aP (fun k_ hk_=>((Kd.R_mono (ok':=fun k_=>((fun _=>True)) k_∧some k_≠(v198:Value).ownBlock) (Kd.R_apart' (HO202.out) (Kd.S_typed HO199.out) (by decide)) (fun k_ hk=>⟨trivial,hk.2⟩))).1 k_ hk_.symm) ?aF ?aO ?aB ?aS ?aL ?_;(case aP=>exact Kd.M_row (Kd.R_mono (Kd.R_tight rfl (Kd.R_mono (ok':=fun k_=>((fun _=>True)) k_∧some k_≠(v198:Value).ownBlock) (Kd.R_apart' (HO202.out) (Kd.S_typed HO199.out) (by decide)) (fun k_ hk=>⟨trivial,hk.2⟩))) (fun _ h_=>h_)));(case aB=>exact (vB HB));(case aF=>exact (fun _ _=>trivial));(case aO=>exact (by (with_reducible repeat (first|apply Kd.S_alloc|apply Kd.S_drewN|apply Kd.S_drew));exact Kd.S_mono HO199.out (fun k_ hk=>⟨trivial,fun e_=>hk.2 e_⟩)));(case aS=>exact (Qd (vB HB)));(case aL=>have:=LMc9.out;omega);intro v204 w16 ho hb hg hat;rw [←Ny203.out] at ho;replace BK190:=Aside0.mk (Qdq (uK BK190) hg (Kd.S_ne HO199.out BK190.out (by decide)));replace HB:=Aside0.mk (hb);have HO205:=Aside0.mk (ho);clear HO199 HO202;clear ho hb hg hat))
           go_roundg k2
           case measure=>have:=HK1.out;have:=HK2.out;omega
           case rel=>exact ⟨(y203),(wrap64 (x7_2+1)),(by first|rfl|(simp;done)|(simp [*];done)),H',⟨by have:=HK1.out;have:=HK2.out;omega⟩,⟨uS HO205⟩,⟨uK BK190⟩,⟨(vB HB)⟩⟩
          ·
           rw [if_neg c9] at H;exact absurd H (by simp)
         ·
          rw [if_neg c8] at H;have c8b0:=decide_eq_false c8;clear c8;have H':=Aside0.mk H;clear H;go_wp2_with (first|((with_reducible refine Qbl (N:=35) rfl ?_);refine Kd.R_lit (Kd.int .i64) _ 3 ?hg (N:=35) ?hd (xs:=([wrap64 ((wrap64 (a1*x6_1))+x7_2),wrap64 ((wrap64 ((wrap64 (a1*x6_1))+a1))+x7_2)] :List Int)) (inner:= [.int .i64 (wrap64 ((wrap64 (a1*x6_1))+x7_2)), .int .i64 (wrap64 ((wrap64 ((wrap64 (a1*x6_1))+a1))+x7_2))]) (ok:=fun _=>True) (okp:=fun _=>True) ?hr ?hp (fun _ hk=>hk) trivial (Below.refl _ _) (Nat.le_refl _) (by simp) ?_;(case hd=>rfl);(case hg=>rfl);(case hr=>first|(go_simp;done)|(go_simp;rfl));(case hp=>exact (Reps.one (show Kd.M (Kd.int .i64) _ _ _ (wrap64 ((wrap64 (a1*x6_1))+x7_2)) [.int .i64 (wrap64 ((wrap64 (a1*x6_1))+x7_2))] from rfl) (Reps.one (show Kd.M (Kd.int .i64) _ _ _ (wrap64 ((wrap64 ((wrap64 (a1*x6_1))+a1))+x7_2)) [.int .i64 (wrap64 ((wrap64 ((wrap64 (a1*x6_1))+a1))+x7_2))] from rfl) (Reps.none _ _))));intro v195 w18 ho19 hb hg_ hnew_;clear hg_ hnew_;(first|rw [←Ny194.out] at ho19|(simp only [Int.reduceToNat] at ho19;rw [←Ny194.out] at ho19));replace HO_5:=Aside0.mk (Kd.S_elder' (uS HO_5) (Kd.R_base ho19) hb);have HO196:=Aside0.mk (Kd.R_lower ho19 (Qd (vB HB)));replace BK190:=Aside0.mk (Qb (uK BK190) hb);replace HB:=Aside0.mk (Qc (vB HB) hb);clear hb ho19;obtain ⟨Ao21,co21,eo21⟩:=Kd.R_slice HO196.out;subst eo21)|((with_reducible refine Qb5 (b:= .append) (xs:= #[.tmp 22, .tmp 36]) rfl ?_);at_builtin;refine Kd.S_append (Kd.slice 3 (Kd.int .i64)) (w0:=w) w.heap.size rfl (.tmp 22) (.tmp 36) 40 24 (.slice none 0 0) 24 rfl Tryz.underlying40 Qe0 rfl (by decide) (by omega) u5 x5_2 y194 [.slice Ao21 y194.length co21] (fun _=>True) (fun k_=>some k_=(.slice Ao21 y194.length co21:Value).ownBlock) rfl rfl ?aP (fun k_ hk_=>((Kd.R_mono (ok':=fun k_=>((fun _=>True)) k_∧some k_≠(u5:Value).ownBlock) (Kd.R_apart' (HO196.out) (Kd.S_typed HO_5.out) (by decide)) (fun k_ hk=>⟨trivial,hk.2⟩))).1 k_ hk_.symm) ?aF ?aO ?aB ?aS ?aL ?_;(case aP=>exact Kd.M_row (Kd.R_mono (Kd.R_tight rfl (Kd.R_mono (ok':=fun k_=>((fun _=>True)) k_∧some k_≠(u5:Value).ownBlock) (Kd.R_apart' (HO196.out) (Kd.S_typed HO_5.out) (by decide)) (fun k_ hk=>⟨trivial,hk.2⟩))) (fun _ h_=>h_)));(case aB=>exact (vB HB));(case aF=>exact (fun _ _=>trivial));(case aO=>exact (by (with_reducible repeat (first|apply Kd.S_alloc|apply Kd.S_drewN|apply Kd.S_drew));exact Kd.S_mono HO_5.out (fun k_ hk=>⟨trivial,fun e_=>hk.2 e_⟩)));(case aS=>exact (Qd (vB HB)));(case aL=>have:=LMc7.out;omega);intro v198 w20 ho hb hg hat;rw [←Ny197.out] at ho;replace BK190:=Aside0.mk (Qdq (uK BK190) hg (Kd.S_ne HO_5.out BK190.out (by decide)));replace HB:=Aside0.mk (hb);have HO199:=Aside0.mk (ho);clear HO_5 HO196;clear ho hb hg hat));go_roundg k2
          case measure=>have:=HK1.out;have:=HK2.out;omega
          case rel=>exact ⟨(y197),(wrap64 (x7_2+1)),(by first|rfl|(simp;done)|(simp [*];done)),H',⟨by have:=HK1.out;have:=HK2.out;omega⟩,⟨uS HO199⟩,⟨uK BK190⟩,⟨(vB HB)⟩⟩
        ·
         rw [if_neg c7] at H;exact absurd H (by simp)
       ·
        rw [if_neg c6] at H;have c6b0:=decide_eq_false c6;clear c6
        by_cases c22:(wrap64 (x7_2+1))<a1
        ·
         rw [if_pos c22] at H;have c22b0:=decide_eq_true c22;clear c22;obtain ⟨y206,hy206⟩: ∃ y_:List Int,y_=(([wrap64 ((wrap64 (a1*x6_1))+x7_2),wrap64 ((wrap64 ((wrap64 (a1*x6_1))+x7_2))+1)] :List Int)):=⟨_,rfl⟩
         replace H:(if x5_2.length<5864062014805 then (Q1.l1 k2 a0 a1 (x5_2++ [y206]) x6_1 (wrap64 (x7_2+1))) else (none))=some r:=by first|(rw [hy206];with_reducible exact H)|(have H2_:=(Option.bind_some _ _).symm.trans H;rw [hy206];with_reducible exact H2_)|(have H2_:=(Option.bind_some _ _).symm.trans H;with_reducible exact H2_)|with_reducible exact H|(rw [hy206];exact H)|exact H
         have Ny206:=Aside0.mk hy206;clear hy206
         by_cases c23:x5_2.length<5864062014805
         ·
          rw [if_pos c23] at H;have LMc23:=Aside0.mk c23;clear c23;obtain ⟨y209,hy209⟩: ∃ y_:List (List Int),y_=(x5_2++ [y206]):=⟨_,rfl⟩
          replace H:(Q1.l1 k2 a0 a1 y209 x6_1 (wrap64 (x7_2+1)))=some r:=by first|(rw [hy209];with_reducible exact H)|(have H2_:=(Option.bind_some _ _).symm.trans H;rw [hy209];with_reducible exact H2_)|(have H2_:=(Option.bind_some _ _).symm.trans H;with_reducible exact H2_)|with_reducible exact H|(rw [hy209];exact H)|exact H
          have Ny209:=Aside0.mk hy209;clear hy209;have H':=Aside0.mk H;clear H;go_wp2_with (first|((with_reducible refine Qbl (N:=54) rfl ?_);refine Kd.R_lit (Kd.int .i64) _ 3 ?hg (N:=54) ?hd (xs:=([wrap64 ((wrap64 (a1*x6_1))+x7_2),wrap64 ((wrap64 ((wrap64 (a1*x6_1))+x7_2))+1)] :List Int)) (inner:= [.int .i64 (wrap64 ((wrap64 (a1*x6_1))+x7_2)), .int .i64 (wrap64 ((wrap64 ((wrap64 (a1*x6_1))+x7_2))+1))]) (ok:=fun _=>True) (okp:=fun _=>True) ?hr ?hp (fun _ hk=>hk) trivial (Below.refl _ _) (Nat.le_refl _) (by simp) ?_;(case hd=>rfl);(case hg=>rfl);(case hr=>first|(go_simp;done)|(go_simp;rfl));(case hp=>exact (Reps.one (show Kd.M (Kd.int .i64) _ _ _ (wrap64 ((wrap64 (a1*x6_1))+x7_2)) [.int .i64 (wrap64 ((wrap64 (a1*x6_1))+x7_2))] from rfl) (Reps.one (show Kd.M (Kd.int .i64) _ _ _ (wrap64 ((wrap64 ((wrap64 (a1*x6_1))+x7_2))+1)) [.int .i64 (wrap64 ((wrap64 ((wrap64 (a1*x6_1))+x7_2))+1))] from rfl) (Reps.none _ _))));intro v207 w24 ho25 hb hg_ hnew_;clear hg_ hnew_;(first|rw [←Ny206.out] at ho25|(simp only [Int.reduceToNat] at ho25;rw [←Ny206.out] at ho25));replace HO_5:=Aside0.mk (Kd.S_elder' (uS HO_5) (Kd.R_base ho25) hb);have HO208:=Aside0.mk (Kd.R_lower ho25 (Qd (vB HB)));replace BK190:=Aside0.mk (Qb (uK BK190) hb);replace HB:=Aside0.mk (Qc (vB HB) hb);clear hb ho25;obtain ⟨Ao27,co27,eo27⟩:=Kd.R_slice HO208.out;subst eo27)|((with_reducible refine Qb5 (b:= .append) (xs:= #[.tmp 42, .tmp 55]) rfl ?_);at_builtin;refine Kd.S_append (Kd.slice 3 (Kd.int .i64)) (w0:=w) w.heap.size rfl (.tmp 42) (.tmp 55) 40 24 (.slice none 0 0) 24 rfl Tryz.underlying40 Qe0 rfl (by decide) (by omega) u5 x5_2 y206 [.slice Ao27 y206.length co27] (fun _=>True) (fun k_=>some k_=(.slice Ao27 y206.length co27:Value).ownBlock) rfl rfl ?aP (fun k_ hk_=>((Kd.R_mono (ok':=fun k_=>((fun _=>True)) k_∧some k_≠(u5:Value).ownBlock) (Kd.R_apart' (HO208.out) (Kd.S_typed HO_5.out) (by decide)) (fun k_ hk=>⟨trivial,hk.2⟩))).1 k_ hk_.symm) ?aF ?aO ?aB ?aS ?aL ?_;(case aP=>exact Kd.M_row (Kd.R_mono (Kd.R_tight rfl (Kd.R_mono (ok':=fun k_=>((fun _=>True)) k_∧some k_≠(u5:Value).ownBlock) (Kd.R_apart' (HO208.out) (Kd.S_typed HO_5.out) (by decide)) (fun k_ hk=>⟨trivial,hk.2⟩))) (fun _ h_=>h_)));(case aB=>exact (vB HB));(case aF=>exact (fun _ _=>trivial));(case aO=>exact (by (with_reducible repeat (first|apply Kd.S_alloc|apply Kd.S_drewN|apply Kd.S_drew));exact Kd.S_mono HO_5.out (fun k_ hk=>⟨trivial,fun e_=>hk.2 e_⟩)));(case aS=>exact (Qd (vB HB)));(case aL=>have:=LMc23.out;omega);intro v210 w26 ho hb hg hat;rw [←Ny209.out] at ho;replace BK190:=Aside0.mk (Qdq (uK BK190) hg (Kd.S_ne HO_5.out BK190.out (by decide)));replace HB:=Aside0.mk (hb);have HO211:=Aside0.mk (ho);clear HO_5 HO208;clear ho hb hg hat));go_roundg k2
          case measure=>have:=HK1.out;have:=HK2.out;omega
          case rel=>exact ⟨(y209),(wrap64 (x7_2+1)),(by first|rfl|(simp;done)|(simp [*];done)),H',⟨by have:=HK1.out;have:=HK2.out;omega⟩,⟨uS HO211⟩,⟨uK BK190⟩,⟨(vB HB)⟩⟩
         ·
          rw [if_neg c23] at H;exact absurd H (by simp)
        ·
         rw [if_neg c22] at H;have c22b0:=decide_eq_false c22;clear c22;have H':=Aside0.mk H;clear H;go_wp2;go_roundg k2
         case measure=>have:=HK1.out;have:=HK2.out;omega
         case rel=>exact ⟨(x5_2),(wrap64 (x7_2+1)),(by first|rfl|(simp;done)|(simp [*];done)),H',⟨by have:=HK1.out;have:=HK2.out;omega⟩,⟨uS HO_5⟩,⟨uK BK190⟩,⟨(vB HB)⟩⟩
      ·
       rw [if_neg c5] at H;have c5b0:=decide_eq_false c5;clear c5;have H':=Aside0.mk H;clear H;go_wp2;go_roundg k2
       case measure=>have:=HK1.out;have:=HK2.out;omega
       case rel=>exact ⟨(x5_2),(wrap64 (x6_1+1)),(by first|rfl|(simp;done)|(simp [*];done)),H',⟨by have:=HK1.out;have:=HK2.out;omega⟩,⟨uS HO_5⟩,⟨uK BK190⟩,⟨(vB HB)⟩⟩
   ·
    rw [if_neg c4] at H;have c4b0:=decide_eq_false c4;clear c4;obtain ⟨t191,A28,H⟩:=bs H;(try dsimp only at H)
    obtain rfl:=Option.some.inj H;obtain ⟨Ao29,co29,eo29⟩:=Kd.S_slice HO_5.out;subst eo29;go_wp2_with (first|(refine gA (some 61) Tryz.func163 #[.int .i64 (wrap64 (a0*a1)), .slice Ao29 x5_1.length co29] ?_;(with_reducible refine (Q8.calls k1 (wrap64 (a0*a1)) _ _ x5_1 t191 _ ?side1 ?side2 A28.out).mono ?_);(case side1=>repeat (first|exact (Kd.S_reads' HO_5.out).2.2|(with_reducible refine Kd.C_alloc ?_ _)|(with_reducible refine Kd.C_drewN ?_ _)|(with_reducible refine Kd.C_drew ?_)));(case side2=>exact (Kd.S_reads' HO_5.out).2.1);rintro e w30 ⟨v192,rfl,ho0,hb⟩;refine ⟨_,rfl,?_⟩;replace HO_5:=Aside0.mk (Kd.S_elder' (uS HO_5) (Kd.R_base ho0) hb);have HO193:=Aside0.mk (Kd.R_lower ho0 (Qd (vB HB)));replace BK190:=Aside0.mk (Qb (uK BK190) hb);replace HB:=Aside0.mk (Qc (vB HB) hb);(try clear hb ho0);obtain ⟨Ao31,co31,eo31⟩:=Kd.R_slice HO193.out;subst eo31;have hcz32_0:=bC BK190;have hfz32_0:=Qe BK190.out 0));refine bodyPost_ret (results_cell_row rfl _ _ gb190 26 #[.slice Ao31 t191.length co31] (0,0) _ rfl bP Tryz.underlying26 rfl (by kernel_rfl)) rfl ?_;exact ⟨_,by first|rfl|(simp [Qf,Qg] <;>rfl)|(simp [*,Qf,Qg] <;>rfl),by (with_reducible repeat (first|apply Kd.R_alloc|apply Kd.R_drewN|apply Kd.R_drew));exact Kd.R_mono (Kd.R_far (p:=⟨gb190,0,none⟩) (Kd.R_types HO193.out BK190.out (by decide)) (fun _ hk=>hk.2) (.slice Ao31 t191.length co31)) (fun _ hk=>trivial),(vB HB)⟩
end Go.Proofs.YtkgngggppcmpfaaGreat.L
end
section
namespace Go.Proofs.YtkgngggppcmpfaaGreat.L
open Go.RowKit Go.Proofs.YtkgngggppcmpfaaGreatW.PrintWords Go.Proofs.YtkgngggppcmpfaaGreatW.PrintLast Go.Proofs.YtkgngggppcmpfaaGreatW.PrintMore
attribute [local go_sem] Q2 Q4 Qbd Qbe Qz Q0 Q3 Q5
set_option linter.unusedVariables false
set_option linter.unusedSimpArgs false
def Qct.f (a0 : Int) (a1 : Int) (a2 : Int) : Option (Bool) := if a0 ≥ a1 then (some (decide (a0 ≤ a2))) else (some false)
set_option maxHeartbeats 8000000 in
set_option maxRecDepth 100000 in
theorem Qct.calls (a0 : Int) (a1 : Int) (a2 : Int) (r : Bool) (w : World) (h : Qct.f a0 a1 a2 = some r) :
 Calls Tryz.prog 192 #[.int .i64 a0, .int .i64 a1, .int .i64 a2] w fun e w'=>e= .returned (.bool r)∧Drawn0 w w':=by
 have H:(if a0 ≥ a1 then (some (decide (a0≤a2))) else (some false))=some r:=h;clear h
 by_cases c4:a0 ≥ a1
 ·
  rw [if_pos c4] at H;have c4b0:=decide_eq_true c4;clear c4;obtain rfl:=Option.some.inj H;go_enter Tryz.func192,Tryz.ntmps192;go_wp2
  go_ret
  exact ⟨by first|rfl|(simp;done)|(simp [*];done),by repeat (first|exact Drawn0.refl _|apply Drawn0.step)⟩
 ·
  rw [if_neg c4] at H;have c4b0:=decide_eq_false c4;clear c4;obtain rfl:=Option.some.inj H;go_enter Tryz.func192,Tryz.ntmps192;go_wp2
  go_ret
  exact ⟨by first|rfl|(simp;done)|(simp [*];done),by repeat (first|exact Drawn0.refl _|apply Drawn0.step)⟩
end Go.Proofs.YtkgngggppcmpfaaGreat.L
end
section
namespace Go.Proofs.YtkgngggppcmpfaaGreat.L
open Go.RowKit Go.Proofs.YtkgngggppcmpfaaGreatW.PrintWords Go.Proofs.YtkgngggppcmpfaaGreatW.PrintLast Go.Proofs.YtkgngggppcmpfaaGreatW.PrintMore Go.Proofs.YtkgngggppcmpfaaGreat.X
attribute [local go_sem] Q2 Q4 Qbd Qbe Qz Q0 Q3 Q5
set_option linter.unusedVariables false
set_option linter.unusedSimpArgs false
def Qv.m1 (xs : List (List Int)) (x : Nat) (s : List Int) : Nat → Int → List Int → Option (List Int)
 |0,y,F=>if y<(xs.length:Int) then none else some F
 |n+1,y,F=>if y<(xs.length:Int) then (if 0≤y∧1<s.length∧1<(xs.getD y.toNat []).length then Qv.m1 xs x s n (wrap64 (y+1)) (if (x:Int)≠y∧rd s 0≤rd (xs.getD y.toNat []) 0∧rd (xs.getD y.toNat []) 1≤rd s 1 then F.set x (Go.bits .or .i64 (rd F x) (shl .i64 1 y)) else F) else none) else some F
def Qv.m0 (xs : List (List Int)) : Nat → Int → List Int → Option (List Int)
 |0,x,F=>if x<(xs.length:Int) then none else some F
 |n+1,x,F=>if x<(xs.length:Int) then (if 0≤x then (Qv.m1 xs x.toNat (xs.getD x.toNat []) xs.length 0 F).bind fun F=>Qv.m0 xs n (wrap64 (x+1)) F else none) else some F
def Qv.p2 (xs : List (List Int)) : Option (List Int × Bool) := if xs.length ≤ 35184372088832 then (Qv.m0 xs xs.length 0 (List.replicate xs.length 0)).map (·, true) else none
mutual
def Qv.l0 : Nat → Int → Bool → List (List Int) → Int → Option (List Int × Bool)
 |0,_,_,_,_=>none
 |k+1,x0,x3,x4,x5=>if x5≤x0 then (Qv.l1 k x0 x3 x4 x5 0) else Qv.p2 x4
def Qv.l1 : Nat → Int → Bool → List (List Int) → Int → Int → Option (List Int × Bool)
 |0,_,_,_,_,_=>none
 |k+1,x0,x3,x4,x5,x6=>if (wrap64 (x6+x5))≤x0 then (if x4.length<5864062014805 then (Qv.l1 k x0 x3 (x4++ [(([x6,wrap64 (x6+x5)] :List Int))]) x5 (wrap64 (x6+1))) else (none)) else (Qv.l0 k x0 x3 x4 (wrap64 (x5+1)))
end
def Qv.f (k : Nat) (a0 : Int) : Option (List Int × Bool) := (Qct.f a0 1 4).bind fun t156 => (if t156 = true then (Qv.l0 k a0 false ([] : List (List Int)) 1) else (some (([] : List Int), false)))
theorem Qv.mono_l : ∀ k, (∀ y0 y1 y2 y3, LeO (Qv.l0 k y0 y1 y2 y3) (Qv.l0 (k + 1) y0 y1 y2 y3)) ∧ (∀ y0 y1 y2 y3 y4, LeO (Qv.l1 k y0 y1 y2 y3 y4) (Qv.l1 (k + 1) y0 y1 y2 y3 y4))
 |0=>⟨fun _ _ _ _ r h=>by simp [Qv.l0] at h,fun _ _ _ _ _ r h=>by simp [Qv.l1] at h⟩
 |k+1=>by
  obtain ⟨ih0,ih1⟩:=Qv.mono_l k;refine ⟨?_,?_⟩
  all_goals
   intros
   first|unfold Qv.l0|unfold Qv.l1
   repeat' (with_reducible first|apply ih0|apply ih1|exact LeO.refl _|exact LeO.none _|refine LeO.ite ?_ ?_|refine LeO.bind ?_ (fun _=> ?_))
theorem Qv.mono : ∀ a0 k, LeO (Qv.f k a0) (Qv.f (k + 1) a0) := by
 intro a0 k;obtain ⟨ih0,ih1⟩:=Qv.mono_l k;unfold Qv.f
 repeat' (with_reducible first|apply ih0|apply ih1|exact LeO.refl _|exact LeO.none _|refine LeO.ite ?_ ?_|refine LeO.bind ?_ (fun _=> ?_))
theorem Qv.lit_R {α : Type} (d : Kd α) {W : World} (base e g : Nat) {xs : List α} {inner : List Value} {ok okp : Nat → Prop} (hrep : Reps (d.M W base okp) d.sz xs inner) (hok : ∀ k, okp k → ok k) (hg : g = W.heap.size) (hfresh : ok g) (hbase : base ≤ g) (hm : xs.length ≤ 9223372036854775807) :
 d.R e (W.alloc (.cells inner.toArray e)) base ok (.slice (some ⟨g,0,none⟩) xs.length xs.length) xs:=by
 subst hg;refine ⟨fun k hk=> ?_,inner,?_,?_⟩
 ·
  have:W.heap.size=k:=by simpa [Value.ownBlock] using hk
  subst this;exact hfresh
 ·
  have h2:=World.ownsRow_lit (base:=base) (e:=e) (size:=d.sz) W inner.toArray xs.length hbase (by simpa [maxLen] using hm) (by simpa using hrep.1)
  simpa using h2
 ·
  refine hrep.imp_ (fun p c hp=>d.M_mono (fun k hk=>⟨hok k hk.1,fun he=> ?_⟩) (Kd.M_below (d.M_bound hp) (Qj (Below.refl _ _) _)));have h3:k=W.heap.size:=by simpa [Value.ownBlock] using he
  have:=hk.2.2.1;omega
theorem Qv.made_R (W : World) (base g m : Nat) (hg : g = W.heap.size) (hbase : base ≤ g) (hm : m ≤ 35184372088832) :
 Kd.R (Kd.int .i64) 3 (W.alloc (.cells (madeCells #[.int .i64 0] m) 3)) base (fun _=>True) (.slice (some ⟨g,0,none⟩) m m) (List.replicate m 0):=by
 have hr:Reps ((Kd.int .i64).M W base (fun _=>True)) 1 (List.replicate m (0:Int)) (madeCells (Value.int .i64 0).cells (m*1)).toList:=Kd.reps_made (z:= .int .i64 0) rfl (by decide) (by constructor<;>first|rfl|trivial) m;have h:=Qv.lit_R (Kd.int .i64) base 3 g (ok:=fun _=>True) (okp:=fun _=>False) hr (fun _ h=>h.elim) hg trivial hbase (by rw [List.length_replicate];omega);rw [List.length_replicate,Nat.mul_one] at h;exact h
set_option maxHeartbeats 8000000 in
set_option maxRecDepth 100000 in
theorem Qv.calls (k : Nat) (a0 : Int) (r1 : List Int) (r2 : Bool) (w : World) (h : Qv.f k a0 = some (r1, r2)) :
 Calls Tryz.prog 268 #[.int .i64 a0] w fun e w'=> ∃ v0_:Value,e= .returned (.tuple #[.agg #[v0_], .bool r2])∧Kd.R (Kd.int .i64) 3 w' w.heap.size (fun _=>True) v0_ r1∧Below w.heap.size w w':=by
 have hu:=Tryz.underlying26;have HB:=Aside0.mk (Below.refl w.heap.size w);have H:((Qct.f a0 1 4).bind fun t156=>(if t156=true then (Qv.l0 k a0 false ([] :List (List Int)) 1) else (some (([] :List Int),false))))=some (r1,r2):=h;clear h;obtain ⟨t156,A2,H⟩:=bs H;(try dsimp only at H)
 by_cases c3:t156=true
 ·
  subst c3;rw [if_pos rfl] at H;have H':=Aside0.mk H;clear H;go_enter Tryz.func268,Tryz.ntmps268;go_wp2_with (first|(refine bE (N:=2) (cs:= #[.slice none 0 0]) (t:=26) ?_;intro gb155 hg w4 hbox hb;have BK155:=Aside0.mk (hbox);have GW155:=Aside0.mk ((by rw [hg];exact (Qd (uB HB)):w.heap.size≤gb155));have GE155:=GW155;replace HB:=Aside0.mk (Qc (uB HB) hb);clear hb hbox hg)|(refine gA (some 13) Tryz.func192 #[.int .i64 a0, .int .i64 1, .int .i64 4] ?_;(with_reducible refine (Qct.calls a0 1 4 true _ A2.out).mono ?_);rintro e w' ⟨rfl,⟨nd,rfl⟩⟩;refine ⟨_,rfl,?_⟩))
  go_loopg [4,5] k (fun kq v4 v5 w'=> ∃ (x4_1:List (List Int)) (x5_1:Int),v5= .int .i64 x5_1∧Aside0 (Qv.l0 kq a0 false x4_1 x5_1=some (r1,r2))∧Aside0 (kq≤k)∧Aside0 (Kd.S (Kd.slice 3 (Kd.int .i64)) 24 w' w.heap.size (fun _=>True) v4 x4_1)∧Aside0 (w'.heap[gb155]? =some (.cells #[(.slice none 0 0)] 26 (0,0)))∧Aside0 (Below w.heap.size w w'))
  case atStart=>exact ⟨(([] :List (List Int))),(1),(by first|rfl|(simp;done)|(simp [*];done)),H',⟨Nat.le_refl _⟩,⟨by first|exact Kd.S_nil _ _ _ _ _|exact Kd.N_nil _ _ _ _ _|exact Kd.V_nil _ _ _ _ _|exact Kd.Q_nil _ _ _ _ _|exact Kd.R_nil _ _ _ _ _⟩,⟨uK BK155⟩,⟨(vB HB)⟩⟩
  case round=>
   clear H'
   skip
   obtain ⟨x4_1,x5_1,rfl,HA,HK1,HO_4,BK155,HB⟩:=hrel;cases gk with
   |zero=>exact absurd HA.out (by simp [Qv.l0])
   |succ k1=>
    have H:=HA.out;clear HA;simp only [Qv.l0] at H
    by_cases c5:x5_1≤a0
    ·
     rw [if_pos c5] at H;have c5b0:=decide_eq_true c5;clear c5;have H':=Aside0.mk H;clear H;go_wp2
     go_loopg [4,6] k1 (fun kq v4 v6 w'=> ∃ (x4_2:List (List Int)) (x6_2:Int),v6= .int .i64 x6_2∧Aside0 (Qv.l1 kq a0 false x4_2 x5_1 x6_2=some (r1,r2))∧Aside0 (kq≤k1)∧Aside0 (Kd.S (Kd.slice 3 (Kd.int .i64)) 24 w' w.heap.size (fun _=>True) v4 x4_2)∧Aside0 (w'.heap[gb155]? =some (.cells #[(.slice none 0 0)] 26 (0,0)))∧Aside0 (Below w.heap.size w w'))
     case atStart=>exact ⟨(x4_1),(0),(by first|rfl|(simp;done)|(simp [*];done)),H',⟨Nat.le_refl _⟩,⟨uS HO_4⟩,⟨uK BK155⟩,⟨(vB HB)⟩⟩
     case round=>
      clear H'
      try clear c5b0
      obtain ⟨x4_2,x6_2,rfl,HA,HK2,HO_4,BK155,HB⟩:=hrel;cases gk with
      |zero=>exact absurd HA.out (by simp [Qv.l1])
      |succ k2=>
       have H:=HA.out;clear HA;simp only [Qv.l1] at H
       by_cases c6:(wrap64 (x6_2+x5_1))≤a0
       ·
        rw [if_pos c6] at H;have c6b0:=decide_eq_true c6;clear c6;obtain ⟨y157,hy157⟩: ∃ y_:List Int,y_=(([x6_2,wrap64 (x6_2+x5_1)] :List Int)):=⟨_,rfl⟩
        replace H:(if x4_2.length<5864062014805 then (Qv.l1 k2 a0 false (x4_2++ [y157]) x5_1 (wrap64 (x6_2+1))) else (none))=some (r1,r2):=by first|(rw [hy157];with_reducible exact H)|(have H2_:=(Option.bind_some _ _).symm.trans H;rw [hy157];with_reducible exact H2_)|(have H2_:=(Option.bind_some _ _).symm.trans H;with_reducible exact H2_)|with_reducible exact H|(rw [hy157];exact H)|exact H
        have Ny157:=Aside0.mk hy157;clear hy157
        by_cases c7:x4_2.length<5864062014805
        ·
         rw [if_pos c7] at H;have LMc7:=Aside0.mk c7;clear c7;obtain ⟨y160,hy160⟩: ∃ y_:List (List Int),y_=(x4_2++ [y157]):=⟨_,rfl⟩
         replace H:(Qv.l1 k2 a0 false y160 x5_1 (wrap64 (x6_2+1)))=some (r1,r2):=by first|(rw [hy160];with_reducible exact H)|(have H2_:=(Option.bind_some _ _).symm.trans H;rw [hy160];with_reducible exact H2_)|(have H2_:=(Option.bind_some _ _).symm.trans H;with_reducible exact H2_)|with_reducible exact H|(rw [hy160];exact H)|exact H
         have Ny160:=Aside0.mk hy160;clear hy160;have H':=Aside0.mk H;clear H;go_wp2_with (first|((with_reducible refine Qbl (N:=33) rfl ?_);refine Kd.R_lit (Kd.int .i64) _ 3 ?hg (N:=33) ?hd (xs:=([x6_2,wrap64 (x6_2+x5_1)] :List Int)) (inner:= [.int .i64 x6_2, .int .i64 (wrap64 (x6_2+x5_1))]) (ok:=fun _=>True) (okp:=fun _=>True) ?hr ?hp (fun _ hk=>hk) trivial (Below.refl _ _) (Nat.le_refl _) (by simp) ?_;(case hd=>rfl);(case hg=>rfl);(case hr=>first|(go_simp;done)|(go_simp;rfl));(case hp=>exact (Reps.one (show Kd.M (Kd.int .i64) _ _ _ x6_2 [.int .i64 x6_2] from rfl) (Reps.one (show Kd.M (Kd.int .i64) _ _ _ (wrap64 (x6_2+x5_1)) [.int .i64 (wrap64 (x6_2+x5_1))] from rfl) (Reps.none _ _))));intro v158 w8 ho9 hb hg_ hnew_;clear hg_ hnew_;(first|rw [←Ny157.out] at ho9|(simp only [Int.reduceToNat] at ho9;rw [←Ny157.out] at ho9));replace HO_4:=Aside0.mk (Kd.S_elder' (uS HO_4) (Kd.R_base ho9) hb);have HO159:=Aside0.mk (Kd.R_lower ho9 (Qd (vB HB)));replace BK155:=Aside0.mk (Qb (uK BK155) hb);replace HB:=Aside0.mk (Qc (vB HB) hb);clear hb ho9;obtain ⟨Ao11,co11,eo11⟩:=Kd.R_slice HO159.out;subst eo11)|((with_reducible refine Qb5 (b:= .append) (xs:= #[.tmp 28, .tmp 34]) rfl ?_);at_builtin;refine Kd.S_append (Kd.slice 3 (Kd.int .i64)) (w0:=w) w.heap.size rfl (.tmp 28) (.tmp 34) 40 24 (.slice none 0 0) 24 rfl Tryz.underlying40 Qe0 rfl (by decide) (by omega) u4 x4_2 y157 [.slice Ao11 y157.length co11] (fun _=>True) (fun k_=>some k_=(.slice Ao11 y157.length co11:Value).ownBlock) rfl rfl ?aP (fun k_ hk_=>((Kd.R_mono (ok':=fun k_=>((fun _=>True)) k_∧some k_≠(u4:Value).ownBlock) (Kd.R_apart' (HO159.out) (Kd.S_typed HO_4.out) (by decide)) (fun k_ hk=>⟨trivial,hk.2⟩))).1 k_ hk_.symm) ?aF ?aO ?aB ?aS ?aL ?_;(case aP=>exact Kd.M_row (Kd.R_mono (Kd.R_tight rfl (Kd.R_mono (ok':=fun k_=>((fun _=>True)) k_∧some k_≠(u4:Value).ownBlock) (Kd.R_apart' (HO159.out) (Kd.S_typed HO_4.out) (by decide)) (fun k_ hk=>⟨trivial,hk.2⟩))) (fun _ h_=>h_)));(case aB=>exact (vB HB));(case aF=>exact (fun _ _=>trivial));(case aO=>exact (by (with_reducible repeat (first|apply Kd.S_alloc|apply Kd.S_drewN|apply Kd.S_drew));exact Kd.S_mono HO_4.out (fun k_ hk=>⟨trivial,fun e_=>hk.2 e_⟩)));(case aS=>exact (Qd (vB HB)));(case aL=>have:=LMc7.out;omega);intro v161 w10 ho hb hg hat;rw [←Ny160.out] at ho;replace BK155:=Aside0.mk (Qdq (uK BK155) hg (Kd.S_ne HO_4.out BK155.out (by decide)));replace HB:=Aside0.mk (hb);have HO162:=Aside0.mk (ho);clear HO_4 HO159;clear ho hb hg hat));go_roundg k2
         case measure=>have:=HK1.out;have:=HK2.out;omega
         case rel=>exact ⟨(y160),(wrap64 (x6_2+1)),(by first|rfl|(simp;done)|(simp [*];done)),H',⟨by have:=HK1.out;have:=HK2.out;omega⟩,⟨uS HO162⟩,⟨uK BK155⟩,⟨(vB HB)⟩⟩
        ·
         rw [if_neg c7] at H;exact absurd H (by simp)
       ·
        rw [if_neg c6] at H;have c6b0:=decide_eq_false c6;clear c6;have H':=Aside0.mk H;clear H;go_wp2;go_roundg k2
        case measure=>have:=HK1.out;have:=HK2.out;omega
        case rel=>exact ⟨(x4_2),(wrap64 (x5_1+1)),(by first|rfl|(simp;done)|(simp [*];done)),H',⟨by have:=HK1.out;have:=HK2.out;omega⟩,⟨uS HO_4⟩,⟨uK BK155⟩,⟨(vB HB)⟩⟩
    ·
     rw [if_neg c5] at H;have c5b0:=decide_eq_false c5;clear c5;obtain ⟨A4,c4,e4⟩:=Kd.S_slice HO_4.out;subst e4;have RD:=Kd.R_reads' (Kd.S_R HO_4.out);have HC4:=Aside0.mk RD.2.2;have HL4:=Aside0.mk RD.2.1;have HBr:=Aside0.mk HB.out;clear RD HO_4 HK1;unfold Qv.p2 at H
     split at H
     ·
      rename_i hlen;obtain ⟨F',hF,hr⟩:=Option.map_eq_some_iff.mp H;injection hr with hr1 hr2
      subst hr1 hr2;have HF:=Aside0.mk hF;have HLn:=Aside0.mk hlen;clear H hF hlen;generalize x4_1=xs at*
      obtain ⟨w1,e1⟩: ∃ w1,w1=wr:=⟨_,rfl⟩
      subst e1;have hmk:=Qmz (P:=Tryz.prog) 24 3 .i64 8 Tryz.underlying24 rfl (by decide) xs.length (by have:=HLn.out;omega);go_wp2_with fail;have R0:=Aside0.mk (show Kd.R (Kd.int .i64) 3 ((w1.alloc (.cells (madeCells #[.int .i64 0] xs.length) 3)).alloc (.cells #[.slice (some ⟨w1.heap.size,0,none⟩) xs.length xs.length] 26)) w1.heap.size (fun _=>True) (.slice (some ⟨w1.heap.size,0,none⟩) xs.length xs.length) (List.replicate xs.length 0) from Kd.R_alloc (Qv.made_R w1 w1.heap.size _ xs.length rfl (Nat.le_refl _) HLn.out) _);have K0:=Aside0.mk (show ((w1.alloc (.cells (madeCells #[.int .i64 0] xs.length) 3)).alloc (.cells #[.slice (some ⟨w1.heap.size,0,none⟩) xs.length xs.length] 26)).heap[w1.heap.size+1]? =some (.cells #[.slice (some ⟨w1.heap.size,0,none⟩) xs.length xs.length] 26 (0,0)) by rw [show w1.heap.size+1=(w1.alloc (.cells (madeCells #[.int .i64 0] xs.length) 3)).heap.size from (Array.size_push ..).symm];exact Ql4 _ _);have B0:=Aside0.mk (Qj (Qj (Below.refl w1.heap.size w1) (.cells (madeCells #[.int .i64 0] xs.length) 3)) (.cells #[.slice (some ⟨w1.heap.size,0,none⟩) xs.length xs.length] 26));have HFU:=Aside0.mk (Nat.le_refl xs.length)
      go_loopg [42] xs.length (fun kq v42 wl=> ∃ (x:Int) (F:List Int),v42= .int .i64 x∧Aside0 (Qv.m0 xs kq x F=some F')∧Aside0 (kq≤xs.length)∧Aside0 (F.length=xs.length)∧Aside0 (Kd.R (Kd.int .i64) 3 wl w1.heap.size (fun _=>True) (.slice (some ⟨w1.heap.size,0,none⟩) xs.length xs.length) F)∧Aside0 (wl.heap[w1.heap.size+1]? =some (.cells #[.slice (some ⟨w1.heap.size,0,none⟩) xs.length xs.length] 26 (0,0)))∧Aside0 (Below w1.heap.size w1 wl))
      case atStart=>exact ⟨0,_,rfl,HF,HFU,⟨List.length_replicate⟩,R0,K0,B0⟩
      case round=>
       clear R0 K0 B0 HF;obtain ⟨x,F,rfl,HA,HK1,HN,HR,K,B⟩:=hrel
       by_cases hx:x<(xs.length:Int)
       ·
        cases gk with
        |zero=>
         have h:=HA.out;rw [Qv.m0,if_pos hx] at h;cases h
        |succ k1=>
         have h:=HA.out;rw [Qv.m0,if_pos hx] at h
         split at h
         ·
          rename_i hx0;obtain ⟨F1,hm,h⟩:=Option.bind_eq_some_iff.mp h;have HA2:=Aside0.mk h;clear h HA;obtain ⟨xn,rfl⟩:=Int.eq_ofNat_of_zero_le hx0;have hm':=hm;clear hm;obtain ⟨ad,As,cs,eA,hcs,hls,hCs⟩:=Go.Proofs.YtkgngggppcmpfaaGreat.X.row_at (Kd.C_below HC4.out (Below.refl _ _)) xn (by omega);cases eA;have hs:=(B.out.cell (World.block_lt_of_cell? w1 _ hcs)).trans hcs;have HCs:=Aside0.mk hCs;have HLs:=Aside0.mk hls;have hxb:(xn:Int)<(xs.length:Int):=hx;have HCA:=Aside0.mk hcs;clear hCs hls hcs;rw [Int.toNat_natCast] at hm';generalize xs.getD xn [] =s at hm' hs HCs HLs HCA;have HM:=Aside0.mk hm';clear hm';go_wp2_with fail
          go_loopg [49] xs.length (fun kq v49 wm=> ∃ (y:Int) (G:List Int),v49= .int .i64 y∧Aside0 (Qv.m1 xs xn s kq y G=some F1)∧Aside0 (kq≤xs.length)∧Aside0 (G.length=xs.length)∧Aside0 (Kd.R (Kd.int .i64) 3 wm w1.heap.size (fun _=>True) (.slice (some ⟨w1.heap.size,0,none⟩) xs.length xs.length) G)∧Aside0 (wm.heap[w1.heap.size+1]? =some (.cells #[.slice (some ⟨w1.heap.size,0,none⟩) xs.length xs.length] 26 (0,0)))∧Aside0 (Below w1.heap.size w1 wm))
          case atStart=>exact ⟨0,F,rfl,HM,HFU,HN,HR,K,B⟩
          case round=>
           clear HM HR K B hs HN;obtain ⟨y,G,rfl,HA3,HK2,HN,HR,K,B⟩:=hrel
           by_cases hy:y<(xs.length:Int)
           ·
            cases gk with
            |zero=>
             have h:=HA3.out;rw [Qv.m1,if_pos hy] at h;cases h
            |succ k2=>
             have h:=HA3.out;rw [Qv.m1,if_pos hy] at h
             split at h
             ·
              rename_i hc;have HA4':=h;clear h HA3;obtain ⟨yn,rfl⟩:=Int.eq_ofNat_of_zero_le hc.1;have hs1:=hc.2.1;have ht1:=hc.2.2;rw [Int.toNat_natCast] at ht1;clear hc;obtain ⟨ad2,At,ct,eA,hct,hlt,hCt⟩:=Go.Proofs.YtkgngggppcmpfaaGreat.X.row_at HC4.out yn (by omega);cases eA;have ht:=(B.out.cell (World.block_lt_of_cell? w1 _ hct)).trans hct;obtain ⟨ads,eA,s0⟩:=Kd.at_int (Kd.C_below HCs.out B.out) 0 (by omega) (by omega);cases eA;obtain ⟨ads2,eA,s1⟩:=Kd.at_int (Kd.C_below HCs.out B.out) 1 (by omega) (by omega);cases eA;obtain ⟨adt,eA,t0⟩:=Kd.at_int (Kd.C_below hCt B.out) 0 (by omega) (by omega);cases eA;obtain ⟨adt2,eA,t1⟩:=Kd.at_int (Kd.C_below hCt B.out) 1 (by omega) (by omega);cases eA;clear hCt hlt hct;have s0z:=s0;rw [Int.toNat_zero,Addr.add_zero'] at s0z;have s1z:=s1;rw [show ads.add (Int.toNat 1)= { block:=ads.block,off:=ads.off+1 } by simp [Addr.add]] at s1z;have t0z:=t0;rw [Int.toNat_zero,Addr.add_zero'] at t0z;have t1z:=t1;rw [show adt.add (Int.toNat 1)= { block:=adt.block,off:=adt.off+1 } by simp [Addr.add]] at t1z;rw [Int.toNat_natCast] at HA4';generalize xs.getD yn [] =t at*
              have q0:(0:Int)<(s.length:Int):=by omega
              have q1:(1:Int)<(s.length:Int):=by omega
              have r0:(0:Int)<(t.length:Int):=by omega
              have r1:(1:Int)<(t.length:Int):=by omega
              by_cases d1:(xn:Int)=(yn:Int)
              ·
               have HA5:=Aside0.mk (show Qv.m1 xs xn s k2 (wrap64 ((yn:Int)+1)) G=some F1 by rw [if_neg (fun c=>c.1 d1)] at HA4';exact HA4');have b1:((xn:Int) !=(yn:Int))=false:=bne_eq_false_iff_eq.mpr d1;have b2:((xn:Int)==(yn:Int))=true:=beq_iff_eq.mpr d1;clear d1 HA4';go_wp2_with fail
               repeat (go_quiet (fail);try go_wp2)
               go_roundg k2
               case measure=>have:=HK2.out;omega
               case rel=>exact ⟨wrap64 ((yn:Int)+1),G,rfl,HA5,⟨by have:=HK2.out;omega⟩,HN,⟨uR HR⟩,⟨uK K⟩,⟨by repeat (first|(with_reducible first|exact B.out|apply Qj|apply Qi|apply Qm)|exact B.out)⟩⟩
              ·
               have b1:((xn:Int) !=(yn:Int))=true:=bne_iff_ne.mpr d1;have b2:((xn:Int)==(yn:Int))=false:=beq_eq_false_iff_ne.mpr d1
               by_cases d2:rd s 0≤rd t 0
               ·
                have b3:decide (rd s 0≤rd t 0)=true:=decide_eq_true d2
                by_cases d3:rd t 1≤rd s 1
                ·
                 have b4:decide (rd t 1≤rd s 1)=true:=decide_eq_true d3;have HA5':=(show Qv.m1 xs xn s k2 (wrap64 ((yn:Int)+1)) (G.set xn (Go.bits .or .i64 (rd G xn) (shl .i64 1 (yn:Int))))=some F1 by rw [if_pos ⟨d1,d2,d3⟩] at HA4';exact HA4')
                 clear d1 d2 d3 HA4';have hxG:(xn:Int)<(G.length:Int):=by have:=HN.out;omega
                 obtain ⟨gf,cf2,e5,hgb,hgl,cells,hg⟩:=Kd.R_form HR.out (by omega);injection e5 with e51 hle e53
                 cases e51;obtain ⟨ad3,e6,hgx⟩:=Kd.at_int (Kd.R_reads' HR.out).2.2 (xn:Int) (by omega) hxG;cases e6;have hfz:=Qe hg xn;have zk:=Qb6 K.out 0;have hgz:wr.cell? ⟨w1.heap.size,xn,none⟩=some (.int .i64 (rd G xn)):=by
                  by_cases h0:xn=0
                  ·
                   subst h0;simpa [Addr.add] using hgx
                  ·
                   simpa [Addr.add,h0] using hgx
                 obtain ⟨ji,hji⟩: ∃ j_:Int,shl .i64 1 (yn:Int)=j_:=⟨_,rfl⟩
                 have hji_:(IntKind.i64.wrap (1*2 ^ min (yn:Int).toNat 64))=ji:=hji;have hjiu:(IntKind.i64.wrap (2 ^ min (yn:Int).toNat 64))=ji:=by have h_:=hji_;rw [Int.one_mul] at h_;exact h_
                 have hjin:(IntKind.i64.wrap (2 ^ min yn 64))=ji:=hjiu;rw [hji] at HA5';have HA5:=Aside0.mk HA5';clear HA5' hji hgx hgb hgl hle;go_wp2_with fail
                 go_region
                 all_goals
                  go_wp2_with fail
                  go_region
                  all_goals
                   go_wp2;go_roundg k2
                   case measure=>have:=HK2.out;omega
                   case rel=>exact ⟨wrap64 ((yn:Int)+1),G.set xn (Go.bits .or .i64 (rd G xn) ji),rfl,HA5,⟨by have:=HK2.out;omega⟩,⟨(List.length_set ..).trans HN.out⟩,⟨by (with_reducible repeat (first|apply Kd.R_alloc|apply Kd.R_drewN|apply Kd.R_drew));have h_:=(Kd.R_putg HR.out (xn:Int) (Go.bits .or .i64 (rd G xn) ji)).1;rwa [Int.toNat_natCast] at h_⟩,⟨by (with_reducible repeat (first|refine Qq ?_ _|refine Qs ?_|refine Qp ?_ _));exact Qem K.out (Nat.succ_ne_self _) _⟩,⟨by repeat (first|(with_reducible first|exact B.out|apply Qj|apply Qi|apply Qm)|exact Ql B.out (Nat.le_refl _)|exact B.out)⟩⟩
                ·
                 have b4:decide (rd t 1≤rd s 1)=false:=decide_eq_false d3;have HA5:=Aside0.mk (show Qv.m1 xs xn s k2 (wrap64 ((yn:Int)+1)) G=some F1 by rw [if_neg (fun c=>d3 c.2.2)] at HA4';exact HA4');clear d1 d2 d3 HA4';go_wp2_with fail
                 go_region
                 all_goals
                  go_wp2;go_roundg k2
                  case measure=>have:=HK2.out;omega
                  case rel=>exact ⟨wrap64 ((yn:Int)+1),G,rfl,HA5,⟨by have:=HK2.out;omega⟩,HN,⟨uR HR⟩,⟨uK K⟩,⟨by repeat (first|(with_reducible first|exact B.out|apply Qj|apply Qi|apply Qm)|exact B.out)⟩⟩
               ·
                have b3:decide (rd s 0≤rd t 0)=false:=decide_eq_false d2;have HA5:=Aside0.mk (show Qv.m1 xs xn s k2 (wrap64 ((yn:Int)+1)) G=some F1 by rw [if_neg (fun c=>d2 c.2.1)] at HA4';exact HA4');clear d1 d2 HA4';go_wp2_with fail
                go_region
                all_goals
                 go_wp2;go_roundg k2
                 case measure=>have:=HK2.out;omega
                 case rel=>exact ⟨wrap64 ((yn:Int)+1),G,rfl,HA5,⟨by have:=HK2.out;omega⟩,HN,⟨uR HR⟩,⟨uK K⟩,⟨by repeat (first|(with_reducible first|exact B.out|apply Qj|apply Qi|apply Qm)|exact B.out)⟩⟩
             ·
              cases h
           ·
            have h:=HA3.out;have e:G=F1:=by
             cases gk with
             |zero=>rw [Qv.m1,if_neg hy] at h;exact Option.some.inj h
             |succ k2=>rw [Qv.m1,if_neg hy] at h;exact Option.some.inj h
            subst e;clear h HA3;go_wp2;go_roundg k1
            case measure=>have:=HK1.out;omega
            case rel=>exact ⟨wrap64 ((xn:Int)+1),G,rfl,HA2,⟨by have:=HK1.out;omega⟩,HN,HR,K,B⟩
         ·
          cases h
       ·
        have h:=HA.out;have e:F=F':=by
         cases gk with
         |zero=>rw [Qv.m0,if_neg hx] at h;exact Option.some.inj h
         |succ k1=>rw [Qv.m0,if_neg hx] at h;exact Option.some.inj h
        subst e;clear h HA HFU;have BKe:=Aside0.mk (show wr.heap[gb155]? =some (.cells #[.slice none 0 0] 26 (0,0)) from Qb BK155.out B.out);have hcz:wr.cell? ⟨gb155,0,none⟩=some (.slice none 0 0):=(Qb6 BKe.out 0).trans rfl;have hfz:=Qe BKe.out 0;have zk:=(Qb6 K.out 0).trans rfl;go_wp2;refine bodyPost_ret (Qd0 rfl _ _ gb155 26 #[.slice (some ⟨w1.heap.size,0,none⟩) xs.length xs.length] (0,0) _ rfl (by (with_reducible repeat (first|refine Qq ?_ _|refine Qs ?_|refine Qp ?_ _));refine Qec (cs:= #[.slice none 0 0]) ?_ 0 _ rfl;(with_reducible repeat (first|refine Qq ?_ _|refine Qs ?_|refine Qp ?_ _));exact BKe.out) Tryz.underlying26 rfl (by kernel_rfl)) rfl ?_;exact ⟨_,by first|rfl|(simp;done),by (with_reducible repeat (first|apply Kd.R_alloc|apply Kd.R_drewN|apply Kd.R_drew));exact Kd.R_mono (Kd.R_far (p:=⟨gb155,0,none⟩) (Kd.R_types (Kd.R_lower HR.out HBr.out.size) BKe.out (by decide)) (fun _ hk=>hk.2) _) (fun _ hk=>trivial),by (repeat (first|(with_reducible apply Qj)|(with_reducible apply Qi)|(with_reducible apply Qm)));exact Ql (HBr.out.trans (B.out.mono HBr.out.size)) GE155.out⟩
     ·
      cases H
 ·
  replace c3:=Bool.eq_false_iff.mpr c3;subst c3;rw [if_neg (show ¬ (false=true) by decide)] at H;simp only [Option.some.injEq,Prod.mk.injEq] at H;obtain ⟨rfl,rfl⟩:=H;go_enter Tryz.func268,Tryz.ntmps268;go_wp2_with (first|(refine bE (N:=2) (cs:= #[.slice none 0 0]) (t:=26) ?_;intro gb155 hg w12 hbox hb;have BK155:=Aside0.mk (hbox);have GW155:=Aside0.mk ((by rw [hg];exact (Qd (uB HB)):w.heap.size≤gb155));have GE155:=GW155;replace HB:=Aside0.mk (Qc (uB HB) hb);clear hb hbox hg)|(refine gA (some 13) Tryz.func192 #[.int .i64 a0, .int .i64 1, .int .i64 4] ?_;(with_reducible refine (Qct.calls a0 1 4 false _ A2.out).mono ?_);rintro e w' ⟨rfl,⟨nd,rfl⟩⟩;refine ⟨_,rfl,?_⟩;(try (rw [Qg4 w12];generalize hq_:World.drewN w12 _=w12;have n0_:Aside0 (w12.heap[gb155]? =some (.cells #[.slice none 0 0] 26 (0,0))):=⟨by rw [←hq_];exact (uK BK155)⟩;have n1_:Aside0 (Below w.heap.size w w12):=⟨by rw [←hq_];exact (vB HB)⟩;clear BK155 HB hq_;have BK155:=n0_;have HB:=n1_;clear n0_ n1_));have hcz13_0:=bC BK155;have hfz13_0:=Qe BK155.out 0));refine bodyPost_ret (Qd0 rfl _ _ gb155 26 #[.slice none 0 0] (0,0) _ rfl bP Tryz.underlying26 rfl (by kernel_rfl)) rfl ?_;exact ⟨_,by first|rfl|(simp [Qf,Qg] <;>rfl)|(simp [*,Qf,Qg] <;>rfl),by first|exact Kd.R_nil _ _ _ _ _|exact Kd.N_nil _ _ _ _ _|exact Kd.V_nil _ _ _ _ _|exact Kd.Q_nil _ _ _ _ _|exact Kd.S_nil _ _ _ _ _,(vB HB)⟩
end Go.Proofs.YtkgngggppcmpfaaGreat.L
end
section
namespace Go.Proofs.YtkgngggppcmpfaaGreat.L
open Go.RowKit Go.Proofs.YtkgngggppcmpfaaGreatW.PrintWords Go.Proofs.YtkgngggppcmpfaaGreatW.PrintLast Go.Proofs.YtkgngggppcmpfaaGreatW.PrintMore
attribute [local go_sem] Q2 Q4 Qbd Qbe Qz Q0 Q3 Q5
set_option linter.unusedVariables false
set_option linter.unusedSimpArgs false
def Qeh.f (a0 : Int) (a1 : Int) : Option (Int) := if a0 > a1 then (some a0) else (some a1)
set_option maxHeartbeats 8000000 in
set_option maxRecDepth 100000 in
theorem Qeh.calls (a0 : Int) (a1 : Int) (r : Int) (w : World) (h : Qeh.f a0 a1 = some r) :
 Calls Tryz.prog 332 #[.int .i64 a0, .int .i64 a1] w fun e w'=>e= .returned (.int .i64 r)∧Drawn0 w w':=by
 have H:(if a0>a1 then (some a0) else (some a1))=some r:=h;clear h
 by_cases c3:a0>a1
 ·
  rw [if_pos c3] at H;have c3b0:=decide_eq_true c3;clear c3;obtain rfl:=Option.some.inj H;go_enter Tryz.func332,Tryz.ntmps332;go_wp2
  go_ret
  exact ⟨by first|rfl|(simp;done)|(simp [*];done),by repeat (first|exact Drawn0.refl _|apply Drawn0.step)⟩
 ·
  rw [if_neg c3] at H;have c3b0:=decide_eq_false c3;clear c3;obtain rfl:=Option.some.inj H;go_enter Tryz.func332,Tryz.ntmps332;go_wp2
  go_ret
  exact ⟨by first|rfl|(simp;done)|(simp [*];done),by repeat (first|exact Drawn0.refl _|apply Drawn0.step)⟩
end Go.Proofs.YtkgngggppcmpfaaGreat.L
end
section
namespace Go.Proofs.YtkgngggppcmpfaaGreat.L
open Go.RowKit Go.Proofs.YtkgngggppcmpfaaGreatW.PrintWords Go.Proofs.YtkgngggppcmpfaaGreatW.PrintLast Go.Proofs.YtkgngggppcmpfaaGreatW.PrintMore Go.Proofs.YtkgngggppcmpfaaGreat.X
attribute [local go_sem] Q2 Q4 Qbd Qbe Qz Q0 Q3 Q5
set_option linter.unusedVariables false
set_option linter.unusedSimpArgs false
def Qb9.l0 : Nat → Int → Int → List (List Int) → Int → Option (List Int × Bool)
 |0,_,_,_,_=>none
 |k+1,x0,x4,x5,x6=>if (wrap64 (x4+x6))<x0 then (if x5.length<5864062014805 then ((some (x5++ [(([x6,wrap64 (x4+x6)] :List Int))] :List (List Int))).bind fun y217=>(if (wrap64 (x6+1))<x4 then (if y217.length<5864062014805 then (Qb9.l0 k x0 x4 (y217++ [(([wrap64 (x6+1),wrap64 (x4+x6)] :List Int))]) (wrap64 (x6+1))) else (none)) else (Qb9.l0 k x0 x4 y217 (wrap64 (x6+1))))) else (none)) else ((Q8.f k x0 x5).bind fun t226=>(some (t226,true)))
def Qb9.f (k : Nat) (a0 : Int) : Option (List Int × Bool) := (Qct.f a0 1 10).bind fun t213 => (if t213 = true then (Qb9.l0 k a0 (wrap64 (Int.tdiv (wrap64 (a0 + 1)) 2)) ([] : List (List Int)) 0) else (some (([] : List Int), false)))
theorem Qb9.mono_l : ∀ k, (∀ y0 y1 y2 y3, LeO (Qb9.l0 k y0 y1 y2 y3) (Qb9.l0 (k + 1) y0 y1 y2 y3))
 |0=>fun _ _ _ _ r h=>by simp [Qb9.l0] at h
 |k+1=>by
  have ih0:=Qb9.mono_l k
  ·
   intro y0 y1 y2 y3;unfold Qb9.l0
   repeat' first
   |(with_reducible exact ih0 _ _ _ _)
   |(with_reducible exact Q8.mono _ _ _)
   |(with_reducible exact LeO.refl _)
   |(with_reducible exact LeO.none _)
   |(with_reducible refine LeO.ite ?_ ?_)
   |(with_reducible refine LeO.bind ?_ (fun _=> ?_))
   |exact ih0 _ _ _ _
   |exact Q8.mono _ _ _
   |exact LeO.none _
   |refine LeO.ite ?_ ?_
   |refine LeO.bind ?_ (fun _=> ?_)
theorem Qb9.mono : ∀ a0 k, LeO (Qb9.f k a0) (Qb9.f (k + 1) a0) := by
 intro a0 k;have ih0:=Qb9.mono_l k;unfold Qb9.f
 repeat' (with_reducible first|apply ih0|apply Q8.mono|exact LeO.refl _|exact LeO.none _|refine LeO.ite ?_ ?_|refine LeO.bind ?_ (fun _=> ?_))
set_option maxHeartbeats 8000000 in
set_option maxRecDepth 100000 in
theorem Qb9.calls (k : Nat) (a0 : Int) (r1 : List Int) (r2 : Bool) (w : World) (h : Qb9.f k a0 = some (r1, r2)) :
 Calls Tryz.prog 336 #[.int .i64 a0] w fun e w'=> ∃ v0_:Value,e= .returned (.tuple #[.agg #[v0_], .bool r2])∧Kd.R (Kd.int .i64) 3 w' w.heap.size (fun _=>True) v0_ r1∧Below w.heap.size w w':=by
 have hu26:=Tryz.underlying26;have HB:=Aside0.mk (Below.refl w.heap.size w);have H:((Qct.f a0 1 10).bind fun t213=>(if t213=true then (Qb9.l0 k a0 (wrap64 (Int.tdiv (wrap64 (a0+1)) 2)) ([] :List (List Int)) 0) else (some (([] :List Int),false))))=some (r1,r2):=h;clear h;obtain ⟨t213,A2,H⟩:=bs H;(try dsimp only at H)
 by_cases c3:t213=true
 ·
  subst c3;rw [if_pos rfl] at H;have H':=Aside0.mk H;clear H;go_enter Tryz.func336,Tryz.ntmps336;go_wp2_with (first|(refine bE (N:=2) (cs:= #[.slice none 0 0]) (t:=26) ?_;intro gb212 hg w4 hbox hb;have BK212:=Aside0.mk (hbox);have GW212:=Aside0.mk ((by rw [hg];exact (Qd (uB HB)):w.heap.size≤gb212));have GE212:=GW212;replace HB:=Aside0.mk (Qc (uB HB) hb);clear hb hbox hg)|(refine gA (some 8) Tryz.func192 #[.int .i64 a0, .int .i64 1, .int .i64 10] ?_;(with_reducible refine (Qct.calls a0 1 10 true _ A2.out).mono ?_);rintro e w' ⟨rfl,⟨nd,rfl⟩⟩;refine ⟨_,rfl,?_⟩))
  go_loopg [5,6] k (fun kq v5 v6 w'=> ∃ (x5_1:List (List Int)) (x6_1:Int),v6= .int .i64 x6_1∧Aside0 (Qb9.l0 kq a0 (wrap64 (Int.tdiv (wrap64 (a0+1)) 2)) x5_1 x6_1=some (r1,r2))∧Aside0 (kq≤k)∧Aside0 (Kd.S (Kd.slice 3 (Kd.int .i64)) 24 w' w.heap.size (fun _=>True) v5 x5_1)∧Aside0 (w'.heap[gb212]? =some (.cells #[(.slice none 0 0)] 26 (0,0)))∧Aside0 (Below w.heap.size w w'))
  case atStart=>exact ⟨(([] :List (List Int))),(0),(by first|rfl|(simp;done)|(simp [*];done)),H',⟨Nat.le_refl _⟩,⟨by first|exact Kd.S_nil _ _ _ _ _|exact Kd.N_nil _ _ _ _ _|exact Kd.V_nil _ _ _ _ _|exact Kd.Q_nil _ _ _ _ _|exact Kd.R_nil _ _ _ _ _⟩,⟨uK BK212⟩,⟨(vB HB)⟩⟩
  case round=>
   clear H'
   skip
   obtain ⟨x5_1,x6_1,rfl,HA,HK1,HO_5,BK212,HB⟩:=hrel;cases gk with
   |zero=>exact absurd HA.out (by simp [Qb9.l0])
   |succ k1=>
    have H:=HA.out;clear HA;simp only [Qb9.l0] at H
    by_cases c5:(wrap64 ((wrap64 (Int.tdiv (wrap64 (a0+1)) 2))+x6_1))<a0
    ·
     rw [if_pos c5] at H;have c5b0:=decide_eq_true c5;clear c5;obtain ⟨y214,hy214⟩: ∃ y_:List Int,y_=(([x6_1,wrap64 ((wrap64 (Int.tdiv (wrap64 (a0+1)) 2))+x6_1)] :List Int)):=⟨_,rfl⟩
     replace H:(if x5_1.length<5864062014805 then ((some (x5_1++ [y214] :List (List Int))).bind fun y217=>(if (wrap64 (x6_1+1))<(wrap64 (Int.tdiv (wrap64 (a0+1)) 2)) then (if y217.length<5864062014805 then (Qb9.l0 k1 a0 (wrap64 (Int.tdiv (wrap64 (a0+1)) 2)) (y217++ [(([wrap64 (x6_1+1),wrap64 ((wrap64 (Int.tdiv (wrap64 (a0+1)) 2))+x6_1)] :List Int))]) (wrap64 (x6_1+1))) else (none)) else (Qb9.l0 k1 a0 (wrap64 (Int.tdiv (wrap64 (a0+1)) 2)) y217 (wrap64 (x6_1+1))))) else (none))=some (r1,r2):=by first|(rw [hy214];with_reducible exact H)|(have H2_:=(Option.bind_some _ _).symm.trans H;rw [hy214];with_reducible exact H2_)|(have H2_:=(Option.bind_some _ _).symm.trans H;with_reducible exact H2_)|with_reducible exact H|(rw [hy214];exact H)|exact H
     have Ny214:=Aside0.mk hy214;clear hy214
     by_cases c6:x5_1.length<5864062014805
     ·
      rw [if_pos c6] at H;have LMc6:=Aside0.mk c6;clear c6;obtain ⟨y217,hy217⟩: ∃ y_:List (List Int),y_=(x5_1++ [y214]):=⟨_,rfl⟩
      replace H:(if (wrap64 (x6_1+1))<(wrap64 (Int.tdiv (wrap64 (a0+1)) 2)) then (if y217.length<5864062014805 then (Qb9.l0 k1 a0 (wrap64 (Int.tdiv (wrap64 (a0+1)) 2)) (y217++ [(([wrap64 (x6_1+1),wrap64 ((wrap64 (Int.tdiv (wrap64 (a0+1)) 2))+x6_1)] :List Int))]) (wrap64 (x6_1+1))) else (none)) else (Qb9.l0 k1 a0 (wrap64 (Int.tdiv (wrap64 (a0+1)) 2)) y217 (wrap64 (x6_1+1))))=some (r1,r2):=by first|(rw [hy217];with_reducible exact H)|(have H2_:=(Option.bind_some _ _).symm.trans H;rw [hy217];with_reducible exact H2_)|(have H2_:=(Option.bind_some _ _).symm.trans H;with_reducible exact H2_)|with_reducible exact H|(rw [hy217];exact H)|exact H
      have Ny217:=Aside0.mk hy217;clear hy217
      by_cases c7:(wrap64 (x6_1+1))<(wrap64 (Int.tdiv (wrap64 (a0+1)) 2))
      ·
       rw [if_pos c7] at H;have c7b0:=decide_eq_true c7;clear c7;obtain ⟨y220,hy220⟩: ∃ y_:List Int,y_=(([wrap64 (x6_1+1),wrap64 ((wrap64 (Int.tdiv (wrap64 (a0+1)) 2))+x6_1)] :List Int)):=⟨_,rfl⟩
       replace H:(if y217.length<5864062014805 then (Qb9.l0 k1 a0 (wrap64 (Int.tdiv (wrap64 (a0+1)) 2)) (y217++ [y220]) (wrap64 (x6_1+1))) else (none))=some (r1,r2):=by first|(rw [hy220];with_reducible exact H)|(have H2_:=(Option.bind_some _ _).symm.trans H;rw [hy220];with_reducible exact H2_)|(have H2_:=(Option.bind_some _ _).symm.trans H;with_reducible exact H2_)|with_reducible exact H|(rw [hy220];exact H)|exact H
       have Ny220:=Aside0.mk hy220;clear hy220
       by_cases c8:y217.length<5864062014805
       ·
        rw [if_pos c8] at H;have LMc8:=Aside0.mk c8;clear c8;obtain ⟨y223,hy223⟩: ∃ y_:List (List Int),y_=(y217++ [y220]):=⟨_,rfl⟩
        replace H:(Qb9.l0 k1 a0 (wrap64 (Int.tdiv (wrap64 (a0+1)) 2)) y223 (wrap64 (x6_1+1)))=some (r1,r2):=by first|(rw [hy223];with_reducible exact H)|(have H2_:=(Option.bind_some _ _).symm.trans H;rw [hy223];with_reducible exact H2_)|(have H2_:=(Option.bind_some _ _).symm.trans H;with_reducible exact H2_)|with_reducible exact H|(rw [hy223];exact H)|exact H
        have Ny223:=Aside0.mk hy223;clear hy223;have H':=Aside0.mk H;clear H;go_wp2_with (first|((with_reducible refine Qbl (N:=26) rfl ?_);refine Kd.R_lit (Kd.int .i64) _ 3 ?hg (N:=26) ?hd (xs:=([x6_1,wrap64 ((wrap64 (Int.tdiv (wrap64 (a0+1)) 2))+x6_1)] :List Int)) (inner:= [.int .i64 x6_1, .int .i64 (wrap64 ((wrap64 (Int.tdiv (wrap64 (a0+1)) 2))+x6_1))]) (ok:=fun _=>True) (okp:=fun _=>True) ?hr ?hp (fun _ hk=>hk) trivial (Below.refl _ _) (Nat.le_refl _) (by simp) ?_;(case hd=>rfl);(case hg=>rfl);(case hr=>first|(go_simp;done)|(go_simp;rfl));(case hp=>exact (Reps.one (show Kd.M (Kd.int .i64) _ _ _ x6_1 [.int .i64 x6_1] from rfl) (Reps.one (show Kd.M (Kd.int .i64) _ _ _ (wrap64 ((wrap64 (Int.tdiv (wrap64 (a0+1)) 2))+x6_1)) [.int .i64 (wrap64 ((wrap64 (Int.tdiv (wrap64 (a0+1)) 2))+x6_1))] from rfl) (Reps.none _ _))));intro v215 w9 ho10 hb hg_ hnew_;clear hg_ hnew_;(first|rw [←Ny214.out] at ho10|(simp only [Int.reduceToNat] at ho10;rw [←Ny214.out] at ho10));replace HO_5:=Aside0.mk (Kd.S_elder' (uS HO_5) (Kd.R_base ho10) hb);have HO216:=Aside0.mk (Kd.R_lower ho10 (Qd (vB HB)));replace BK212:=Aside0.mk (Qb (uK BK212) hb);replace HB:=Aside0.mk (Qc (vB HB) hb);clear hb ho10;obtain ⟨Ao12,co12,eo12⟩:=Kd.R_slice HO216.out;subst eo12)|((with_reducible refine Qb5 (b:= .append) (xs:= #[.tmp 21, .tmp 27]) rfl ?_);at_builtin;refine Kd.S_append (Kd.slice 3 (Kd.int .i64)) (w0:=w) w.heap.size rfl (.tmp 21) (.tmp 27) 40 24 (.slice none 0 0) 24 rfl Tryz.underlying40 Qe0 rfl (by decide) (by omega) u5 x5_1 y214 [.slice Ao12 y214.length co12] (fun _=>True) (fun k_=>some k_=(.slice Ao12 y214.length co12:Value).ownBlock) rfl rfl ?aP (fun k_ hk_=>((Kd.R_mono (ok':=fun k_=>((fun _=>True)) k_∧some k_≠(u5:Value).ownBlock) (Kd.R_apart' (HO216.out) (Kd.S_typed HO_5.out) (by decide)) (fun k_ hk=>⟨trivial,hk.2⟩))).1 k_ hk_.symm) ?aF ?aO ?aB ?aS ?aL ?_;(case aP=>exact Kd.M_row (Kd.R_mono (Kd.R_tight rfl (Kd.R_mono (ok':=fun k_=>((fun _=>True)) k_∧some k_≠(u5:Value).ownBlock) (Kd.R_apart' (HO216.out) (Kd.S_typed HO_5.out) (by decide)) (fun k_ hk=>⟨trivial,hk.2⟩))) (fun _ h_=>h_)));(case aB=>exact (vB HB));(case aF=>exact (fun _ _=>trivial));(case aO=>exact (by (with_reducible repeat (first|apply Kd.S_alloc|apply Kd.S_drewN|apply Kd.S_drew));exact Kd.S_mono HO_5.out (fun k_ hk=>⟨trivial,fun e_=>hk.2 e_⟩)));(case aS=>exact (Qd (vB HB)));(case aL=>have:=LMc6.out;omega);intro v218 w11 ho hb hg hat;rw [←Ny217.out] at ho;replace BK212:=Aside0.mk (Qdq (uK BK212) hg (Kd.S_ne HO_5.out BK212.out (by decide)));replace HB:=Aside0.mk (hb);have HO219:=Aside0.mk (ho);clear HO_5 HO216;clear ho hb hg hat)|((with_reducible refine Qbl (N:=39) rfl ?_);refine Kd.R_lit (Kd.int .i64) _ 3 ?hg (N:=39) ?hd (xs:=([wrap64 (x6_1+1),wrap64 ((wrap64 (Int.tdiv (wrap64 (a0+1)) 2))+x6_1)] :List Int)) (inner:= [.int .i64 (wrap64 (x6_1+1)), .int .i64 (wrap64 ((wrap64 (Int.tdiv (wrap64 (a0+1)) 2))+x6_1))]) (ok:=fun _=>True) (okp:=fun _=>True) ?hr ?hp (fun _ hk=>hk) trivial (Below.refl _ _) (Nat.le_refl _) (by simp) ?_;(case hd=>rfl);(case hg=>rfl);(case hr=>first|(go_simp;done)|(go_simp;rfl));(case hp=>exact (Reps.one (show Kd.M (Kd.int .i64) _ _ _ (wrap64 (x6_1+1)) [.int .i64 (wrap64 (x6_1+1))] from rfl) (Reps.one (show Kd.M (Kd.int .i64) _ _ _ (wrap64 ((wrap64 (Int.tdiv (wrap64 (a0+1)) 2))+x6_1)) [.int .i64 (wrap64 ((wrap64 (Int.tdiv (wrap64 (a0+1)) 2))+x6_1))] from rfl) (Reps.none _ _))));intro v221 w13 ho14 hb hg_ hnew_;clear hg_ hnew_;(first|rw [←Ny220.out] at ho14|(simp only [Int.reduceToNat] at ho14;rw [←Ny220.out] at ho14));replace HO219:=Aside0.mk (Kd.S_elder' (uS HO219) (Kd.R_base ho14) hb);have HO222:=Aside0.mk (Kd.R_lower ho14 (Qd (vB HB)));replace BK212:=Aside0.mk (Qb (uK BK212) hb);replace HB:=Aside0.mk (Qc (vB HB) hb);clear hb ho14;obtain ⟨Ao16,co16,eo16⟩:=Kd.R_slice HO222.out;subst eo16)|((with_reducible refine Qb5 (b:= .append) (xs:= #[.tmp 33, .tmp 40]) rfl ?_);at_builtin;refine Kd.S_append (Kd.slice 3 (Kd.int .i64)) (w0:=w) w.heap.size rfl (.tmp 33) (.tmp 40) 40 24 (.slice none 0 0) 24 rfl Tryz.underlying40 Qe0 rfl (by decide) (by omega) v218 y217 y220 [.slice Ao16 y220.length co16] (fun _=>True) (fun k_=>some k_=(.slice Ao16 y220.length co16:Value).ownBlock) rfl rfl ?aP (fun k_ hk_=>((Kd.R_mono (ok':=fun k_=>((fun _=>True)) k_∧some k_≠(v218:Value).ownBlock) (Kd.R_apart' (HO222.out) (Kd.S_typed HO219.out) (by decide)) (fun k_ hk=>⟨trivial,hk.2⟩))).1 k_ hk_.symm) ?aF ?aO ?aB ?aS ?aL ?_;(case aP=>exact Kd.M_row (Kd.R_mono (Kd.R_tight rfl (Kd.R_mono (ok':=fun k_=>((fun _=>True)) k_∧some k_≠(v218:Value).ownBlock) (Kd.R_apart' (HO222.out) (Kd.S_typed HO219.out) (by decide)) (fun k_ hk=>⟨trivial,hk.2⟩))) (fun _ h_=>h_)));(case aB=>exact (vB HB));(case aF=>exact (fun _ _=>trivial));(case aO=>exact (by (with_reducible repeat (first|apply Kd.S_alloc|apply Kd.S_drewN|apply Kd.S_drew));exact Kd.S_mono HO219.out (fun k_ hk=>⟨trivial,fun e_=>hk.2 e_⟩)));(case aS=>exact (Qd (vB HB)));(case aL=>have:=LMc8.out;omega);intro v224 w15 ho hb hg hat;rw [←Ny223.out] at ho;replace BK212:=Aside0.mk (Qdq (uK BK212) hg (Kd.S_ne HO219.out BK212.out (by decide)));replace HB:=Aside0.mk (hb);have HO225:=Aside0.mk (ho);clear HO219 HO222;clear ho hb hg hat))
        go_roundg k1
        case measure=>have:=HK1.out;omega
        case rel=>exact ⟨(y223),(wrap64 (x6_1+1)),(by first|rfl|(simp;done)|(simp [*];done)),H',⟨by have:=HK1.out;omega⟩,⟨uS HO225⟩,⟨uK BK212⟩,⟨(vB HB)⟩⟩
       ·
        rw [if_neg c8] at H;exact absurd H (by simp)
      ·
       rw [if_neg c7] at H;have c7b0:=decide_eq_false c7;clear c7;have H':=Aside0.mk H;clear H;go_wp2_with (first|((with_reducible refine Qbl (N:=26) rfl ?_);refine Kd.R_lit (Kd.int .i64) _ 3 ?hg (N:=26) ?hd (xs:=([x6_1,wrap64 ((wrap64 (Int.tdiv (wrap64 (a0+1)) 2))+x6_1)] :List Int)) (inner:= [.int .i64 x6_1, .int .i64 (wrap64 ((wrap64 (Int.tdiv (wrap64 (a0+1)) 2))+x6_1))]) (ok:=fun _=>True) (okp:=fun _=>True) ?hr ?hp (fun _ hk=>hk) trivial (Below.refl _ _) (Nat.le_refl _) (by simp) ?_;(case hd=>rfl);(case hg=>rfl);(case hr=>first|(go_simp;done)|(go_simp;rfl));(case hp=>exact (Reps.one (show Kd.M (Kd.int .i64) _ _ _ x6_1 [.int .i64 x6_1] from rfl) (Reps.one (show Kd.M (Kd.int .i64) _ _ _ (wrap64 ((wrap64 (Int.tdiv (wrap64 (a0+1)) 2))+x6_1)) [.int .i64 (wrap64 ((wrap64 (Int.tdiv (wrap64 (a0+1)) 2))+x6_1))] from rfl) (Reps.none _ _))));intro v215 w17 ho18 hb hg_ hnew_;clear hg_ hnew_;(first|rw [←Ny214.out] at ho18|(simp only [Int.reduceToNat] at ho18;rw [←Ny214.out] at ho18));replace HO_5:=Aside0.mk (Kd.S_elder' (uS HO_5) (Kd.R_base ho18) hb);have HO216:=Aside0.mk (Kd.R_lower ho18 (Qd (vB HB)));replace BK212:=Aside0.mk (Qb (uK BK212) hb);replace HB:=Aside0.mk (Qc (vB HB) hb);clear hb ho18;obtain ⟨Ao20,co20,eo20⟩:=Kd.R_slice HO216.out;subst eo20)|((with_reducible refine Qb5 (b:= .append) (xs:= #[.tmp 21, .tmp 27]) rfl ?_);at_builtin;refine Kd.S_append (Kd.slice 3 (Kd.int .i64)) (w0:=w) w.heap.size rfl (.tmp 21) (.tmp 27) 40 24 (.slice none 0 0) 24 rfl Tryz.underlying40 Qe0 rfl (by decide) (by omega) u5 x5_1 y214 [.slice Ao20 y214.length co20] (fun _=>True) (fun k_=>some k_=(.slice Ao20 y214.length co20:Value).ownBlock) rfl rfl ?aP (fun k_ hk_=>((Kd.R_mono (ok':=fun k_=>((fun _=>True)) k_∧some k_≠(u5:Value).ownBlock) (Kd.R_apart' (HO216.out) (Kd.S_typed HO_5.out) (by decide)) (fun k_ hk=>⟨trivial,hk.2⟩))).1 k_ hk_.symm) ?aF ?aO ?aB ?aS ?aL ?_;(case aP=>exact Kd.M_row (Kd.R_mono (Kd.R_tight rfl (Kd.R_mono (ok':=fun k_=>((fun _=>True)) k_∧some k_≠(u5:Value).ownBlock) (Kd.R_apart' (HO216.out) (Kd.S_typed HO_5.out) (by decide)) (fun k_ hk=>⟨trivial,hk.2⟩))) (fun _ h_=>h_)));(case aB=>exact (vB HB));(case aF=>exact (fun _ _=>trivial));(case aO=>exact (by (with_reducible repeat (first|apply Kd.S_alloc|apply Kd.S_drewN|apply Kd.S_drew));exact Kd.S_mono HO_5.out (fun k_ hk=>⟨trivial,fun e_=>hk.2 e_⟩)));(case aS=>exact (Qd (vB HB)));(case aL=>have:=LMc6.out;omega);intro v218 w19 ho hb hg hat;rw [←Ny217.out] at ho;replace BK212:=Aside0.mk (Qdq (uK BK212) hg (Kd.S_ne HO_5.out BK212.out (by decide)));replace HB:=Aside0.mk (hb);have HO219:=Aside0.mk (ho);clear HO_5 HO216;clear ho hb hg hat));go_roundg k1
       case measure=>have:=HK1.out;omega
       case rel=>exact ⟨(y217),(wrap64 (x6_1+1)),(by first|rfl|(simp;done)|(simp [*];done)),H',⟨by have:=HK1.out;omega⟩,⟨uS HO219⟩,⟨uK BK212⟩,⟨(vB HB)⟩⟩
     ·
      rw [if_neg c6] at H;exact absurd H (by simp)
    ·
     rw [if_neg c5] at H;have c5b0:=decide_eq_false c5;clear c5;obtain ⟨t226,A21,H⟩:=bs H;(try dsimp only at H)
     simp only [Option.some.injEq,Prod.mk.injEq] at H;obtain ⟨rfl,rfl⟩:=H;obtain ⟨Ao22,co22,eo22⟩:=Kd.S_slice HO_5.out;subst eo22;go_wp2_with (first|(refine gA (some 44) Tryz.func163 #[.int .i64 a0, .slice Ao22 x5_1.length co22] ?_;(with_reducible refine (Q8.calls k1 a0 _ _ x5_1 t226 _ ?side1 ?side2 A21.out).mono ?_);(case side1=>repeat (first|exact (Kd.S_reads' HO_5.out).2.2|(with_reducible refine Kd.C_alloc ?_ _)|(with_reducible refine Kd.C_drewN ?_ _)|(with_reducible refine Kd.C_drew ?_)));(case side2=>exact (Kd.S_reads' HO_5.out).2.1);rintro e w23 ⟨v227,rfl,ho0,hb⟩;refine ⟨_,rfl,?_⟩;replace HO_5:=Aside0.mk (Kd.S_elder' (uS HO_5) (Kd.R_base ho0) hb);have HO228:=Aside0.mk (Kd.R_lower ho0 (Qd (vB HB)));replace BK212:=Aside0.mk (Qb (uK BK212) hb);replace HB:=Aside0.mk (Qc (vB HB) hb);(try clear hb ho0);obtain ⟨Ao24,co24,eo24⟩:=Kd.R_slice HO228.out;subst eo24;have hcz25_0:=bC BK212;have hfz25_0:=Qe BK212.out 0));refine bodyPost_ret (Qd0 rfl _ _ gb212 26 #[.slice Ao24 t226.length co24] (0,0) _ rfl bP Tryz.underlying26 rfl (by kernel_rfl)) rfl ?_;exact ⟨_,by first|rfl|(simp [Qf,Qg] <;>rfl)|(simp [*,Qf,Qg] <;>rfl),by (with_reducible repeat (first|apply Kd.R_alloc|apply Kd.R_drewN|apply Kd.R_drew));exact Kd.R_mono (Kd.R_far (p:=⟨gb212,0,none⟩) (Kd.R_types HO228.out BK212.out (by decide)) (fun _ hk=>hk.2) (.slice Ao24 t226.length co24)) (fun _ hk=>trivial),(vB HB)⟩
 ·
  replace c3:=Bool.eq_false_iff.mpr c3;subst c3;rw [if_neg (show ¬ (false=true) by decide)] at H;simp only [Option.some.injEq,Prod.mk.injEq] at H;obtain ⟨rfl,rfl⟩:=H;go_enter Tryz.func336,Tryz.ntmps336;go_wp2_with (first|(refine bE (N:=2) (cs:= #[.slice none 0 0]) (t:=26) ?_;intro gb212 hg w26 hbox hb;have BK212:=Aside0.mk (hbox);have GW212:=Aside0.mk ((by rw [hg];exact (Qd (uB HB)):w.heap.size≤gb212));have GE212:=GW212;replace HB:=Aside0.mk (Qc (uB HB) hb);clear hb hbox hg)|(refine gA (some 8) Tryz.func192 #[.int .i64 a0, .int .i64 1, .int .i64 10] ?_;(with_reducible refine (Qct.calls a0 1 10 false _ A2.out).mono ?_);rintro e w' ⟨rfl,⟨nd,rfl⟩⟩;refine ⟨_,rfl,?_⟩;(try (rw [Qg4 w26];generalize hq_:World.drewN w26 _=w26;have n0_:Aside0 (w26.heap[gb212]? =some (.cells #[.slice none 0 0] 26 (0,0))):=⟨by rw [←hq_];exact (uK BK212)⟩;have n1_:Aside0 (Below w.heap.size w w26):=⟨by rw [←hq_];exact (vB HB)⟩;clear BK212 HB hq_;have BK212:=n0_;have HB:=n1_;clear n0_ n1_));have hcz27_0:=bC BK212;have hfz27_0:=Qe BK212.out 0));refine bodyPost_ret (Qd0 rfl _ _ gb212 26 #[.slice none 0 0] (0,0) _ rfl bP Tryz.underlying26 rfl (by kernel_rfl)) rfl ?_;exact ⟨_,by first|rfl|(simp [Qf,Qg] <;>rfl)|(simp [*,Qf,Qg] <;>rfl),by first|exact Kd.R_nil _ _ _ _ _|exact Kd.N_nil _ _ _ _ _|exact Kd.V_nil _ _ _ _ _|exact Kd.Q_nil _ _ _ _ _|exact Kd.S_nil _ _ _ _ _,(vB HB)⟩
end Go.Proofs.YtkgngggppcmpfaaGreat.L
end
