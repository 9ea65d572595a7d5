/- Laws about the given program: the law FnOrbitsShareIdeals answers true for every input that its row lets in; no condition is added to the given statement. Contracts of the Go functions that it reaches, and the plain proof over lists. -/
import Derived.Test.YtkgngggppcmpfaaGreatWFnOrbitsShareIdeals0
import Derived.Test.YtkgngggppcmpfaaGreatKFnOrbitsShareIdeals0
import Derived.Test.YtkgngggppcmpfaaGreatKFnOrbitsShareIdeals1
import Derived.Test.YtkgngggppcmpfaaGreatKFnOrbitsShareIdeals2
import Derived.Test.YtkgngggppcmpfaaGreatKFnOrbitsShareIdeals3
import Derived.Test.YtkgngggppcmpfaaGreatKFnOrbitsShareIdeals4
section
namespace Go.Proofs.YtkgngggppcmpfaaGreat.L
open Go.RowKit Go.Proofs.YtkgngggppcmpfaaGreatW.PrintWords Go.Proofs.YtkgngggppcmpfaaGreatW.PrintLast Go.Proofs.YtkgngggppcmpfaaGreatW.PrintMore Go.Proofs.YtkgngggppcmpfaaGreat.X
attribute [local go_sem] Q2 Q4 Qbd Qbe Qz Q0 Q3 Q5
set_option linter.unusedVariables false
set_option linter.unusedSimpArgs false
mutual
def Q6.j0 : Nat → Int → Bool → List Int → Option (Int × Bool)
 |0,_,_,_=>none
 |k+1,x1,x16,x640000=>if x16=true then (some (0,false)) else ((Qbc.f k x640000).bind fun t642=>(Q6.l0 k x1 0 t642 (t642.length:Int) 0))
def Q6.l0 : Nat → Int → Int → List Int → Int → Int → Option (Int × Bool)
 |0,_,_,_,_,_=>none
 |k+1,x1,x6,x18,x19,x20=>if x20<x19 then (if 0≤x20 then (if x20<(x18.length:Int) then (if (rd x18 x20)=0 then (none) else (if (Int.tmod x1 (rd x18 x20))=0 then (Q6.l0 k x1 (wrap64 (x6+(rd x18 x20))) x18 x19 (wrap64 (x20+1))) else (Q6.l0 k x1 x6 x18 x19 (wrap64 (x20+1))))) else (none)) else (none)) else (some (x6,true))
end
def Q6.f (k : Nat) (l0_0 : List Int) (a1 : Int) : Option (Int × Bool) := (Qn.f k l0_0).bind fun t640 => (if t640 = true then ((Qct.f a1 0 1000).bind fun t641 => (Q6.j0 k a1 (!t641) l0_0)) else (Q6.j0 k a1 true l0_0))
theorem Q6.mono_l : ∀ k, (∀ y0 y1 y2, LeO (Q6.j0 k y0 y1 y2) (Q6.j0 (k + 1) y0 y1 y2)) ∧ (∀ y0 y1 y2 y3 y4, LeO (Q6.l0 k y0 y1 y2 y3 y4) (Q6.l0 (k + 1) y0 y1 y2 y3 y4))
 |0=>⟨fun _ _ _ r h=>by simp [Q6.j0] at h,fun _ _ _ _ _ r h=>by simp [Q6.l0] at h⟩
 |k+1=>by
  obtain ⟨ih0,ih1⟩:=Q6.mono_l k;refine ⟨?_,?_⟩
  all_goals
   intros
   first|unfold Q6.j0|unfold Q6.l0
   repeat' (with_reducible first|apply ih0|apply ih1|apply Qbc.mono|apply Qn.mono|exact LeO.refl _|exact LeO.none _|refine LeO.ite ?_ ?_|refine LeO.bind ?_ (fun _=> ?_))
theorem Q6.mono : ∀ a0 a1 k, LeO (Q6.f k a0 a1) (Q6.f (k + 1) a0 a1) := by
 intro a0 a1 k;obtain ⟨ih0,ih1⟩:=Q6.mono_l k;unfold Q6.f
 repeat' (with_reducible first|apply ih0|apply ih1|apply Qbc.mono|apply Qn.mono|exact LeO.refl _|exact LeO.none _|refine LeO.ite ?_ ?_|refine LeO.bind ?_ (fun _=> ?_))
set_option maxHeartbeats 8000000 in
set_option maxRecDepth 100000 in
theorem Q6.calls (k : Nat) (A0_0 : Option Addr) (c0_0 : Nat) (l0_0 : List Int) (a1 : Int) (r1 : Int) (r2 : Bool) (w : World) (hr0_0 : Kd.C (Kd.int .i64) w A0_0 l0_0.length l0_0) (hc0_0 : l0_0.length ≤ c0_0) (h : Q6.f k l0_0 a1 = some (r1, r2)) :
 Calls Tryz.prog 48 #[.agg #[.slice A0_0 l0_0.length c0_0], .int .i64 a1] w fun e w'=>e= .returned (.tuple #[.int .i64 r1, .bool r2])∧Below w.heap.size w w':=by
 have hu26:=Tryz.underlying26;have HR0_0:=Aside0.mk hr0_0;have HC0_0:=Aside0.mk hc0_0;clear hr0_0 hc0_0;have HB:=Aside0.mk (Below.refl w.heap.size w);have H:((Qn.f k l0_0).bind fun t640=>(if t640=true then ((Qct.f a1 0 1000).bind fun t641=>(Q6.j0 k a1 (!t641) l0_0)) else (Q6.j0 k a1 true l0_0)))=some (r1,r2):=h;clear h;have HC3:=Aside0.mk H;clear H;go_enter Tryz.func48,Tryz.ntmps48;go_upto_region 1 with (first|(refine bE (N:=2) (cs:= #[.slice A0_0 l0_0.length c0_0]) (t:=26) ?_;intro gb639 hg w4 hbox hb;have BK639:=Aside0.mk (hbox);have GW639:=Aside0.mk ((by rw [hg];exact (Qd (uB HB)):w.heap.size≤gb639));have GE639:=GW639;replace HB:=Aside0.mk (Qc (uB HB) hb);clear hb hbox hg))
 (try simp only [Act.put,List.setIfInBounds_toArray,List.set_cons_zero,List.set_cons_succ])
 go_cut [16] (fun v16 wc=> ∃ (kq:Nat) (x16_2:Bool),v16= .bool x16_2∧Aside0 (Q6.j0 kq a1 x16_2 l0_0=some (r1,r2))∧Aside0 (kq≤k)∧Aside0 (wc.heap[gb639]? =some (.cells #[(.slice A0_0 l0_0.length c0_0)] 26 (0,0)))∧Aside0 (Below w.heap.size w wc))
 case first=>
  have H:=HC3.out;clear HC3;obtain ⟨t640,A5,H⟩:=bs H;(try dsimp only at H)
  by_cases c6:t640=true
  ·
   subst c6;rw [if_pos rfl] at H;obtain ⟨t641,A7,H⟩:=bs H;(try dsimp only at H)
   have H':=Aside0.mk H;clear H;have hcz8_0:=bC BK639;have hfz8_0:=Qe BK639.out 0;go_wp2_with (first|(refine gA (some 10) Tryz.func183 #[.agg #[.slice A0_0 l0_0.length c0_0]] ?_;(with_reducible refine (Qn.calls k _ _ l0_0 true _ (uD HR0_0 HB) HC0_0.out A5.out).mono ?_);rintro e w9 ⟨rfl,hb⟩;refine ⟨_,rfl,?_⟩;replace BK639:=Aside0.mk (Qb (uK BK639) hb);replace HB:=Aside0.mk (Qc (vB HB) hb);(try clear hb))|(go_at_call 192;(with_reducible refine (Qct.calls a1 0 1000 t641 _ A7.out).mono ?_);rintro e w' ⟨rfl,⟨nd,rfl⟩⟩))
   go_meet
   case rel=>exact ⟨_,(!t641),(by first|rfl|(simp;done)|(simp [*];done)),H',⟨by first|omega|exact Nat.le_refl _⟩,⟨uK BK639⟩,⟨(vB HB)⟩⟩
  ·
   replace c6:=Bool.eq_false_iff.mpr c6;subst c6;rw [if_neg (show ¬ (false=true) by decide)] at H;have H':=Aside0.mk H;clear H;have hcz10_0:=bC BK639;have hfz10_0:=Qe BK639.out 0;go_wp2_with (first|(refine gA (some 10) Tryz.func183 #[.agg #[.slice A0_0 l0_0.length c0_0]] ?_;(with_reducible refine (Qn.calls k _ _ l0_0 false _ (uD HR0_0 HB) HC0_0.out A5.out).mono ?_);rintro e w11 ⟨rfl,hb⟩;refine ⟨_,rfl,?_⟩;replace BK639:=Aside0.mk (Qb (uK BK639) hb);replace HB:=Aside0.mk (Qc (vB HB) hb);(try clear hb)))
   go_meet
   case rel=>exact ⟨_,(true),(by first|rfl|(simp;done)|(simp [*];done)),H',⟨by first|omega|exact Nat.le_refl _⟩,⟨uK BK639⟩,⟨(vB HB)⟩⟩
 case rest=>
  clear HC3
  skip
  obtain ⟨kq,x16_2,rfl,HA,HJ2,BK639,HB⟩:=hcut;cases kq with
  |zero=>exact absurd HA.out (by simp [Q6.j0])
  |succ kj2=>
   have H:=HA.out;clear HA;simp only [Q6.j0] at H
   by_cases c12:x16_2=true
   ·
    subst c12;rw [if_pos rfl] at H;simp only [Option.some.injEq,Prod.mk.injEq] at H;obtain ⟨rfl,rfl⟩:=H;go_wp2
    go_ret2
    exact ⟨by first|rfl|(simp [Qf,Qg] <;>rfl)|(simp [*,Qf,Qg] <;>rfl),(vB HB)⟩
   ·
    replace c12:=Bool.eq_false_iff.mpr c12;subst c12;rw [if_neg (show ¬ (false=true) by decide)] at H;obtain ⟨t642,A13,H⟩:=bs H;(try dsimp only at H)
    have H':=Aside0.mk H;clear H;have hcz14_0:=bC BK639;have hfz14_0:=Qe BK639.out 0;go_wp2_with (first|(refine gA (some 18) Tryz.func186 #[.agg #[.slice A0_0 l0_0.length c0_0]] ?_;(with_reducible refine (Qbc.calls kj2 _ _ l0_0 t642 _ (uD HR0_0 HB) HC0_0.out A13.out).mono ?_);rintro e w15 ⟨v643,rfl,ho0,hb⟩;refine ⟨_,rfl,?_⟩;have HO644:=Aside0.mk (Kd.R_lower ho0 (Qd (vB HB)));replace BK639:=Aside0.mk (Qb (uK BK639) hb);replace HB:=Aside0.mk (Qc (vB HB) hb);(try clear hb ho0);obtain ⟨Ao16,co16,eo16⟩:=Kd.R_slice HO644.out;subst eo16))
    go_loopg [6,20] kj2 (fun kq v6 v20 w'=> ∃ (x6_2:Int) (x20_2:Int),v6= .int .i64 x6_2∧v20= .int .i64 x20_2∧Aside0 (Q6.l0 kq a1 x6_2 t642 (t642.length:Int) x20_2=some (r1,r2))∧Aside0 (kq≤kj2)∧Aside0 (Kd.R (Kd.int .i64) 3 w' w.heap.size (fun _=>True) (.slice Ao16 t642.length co16) t642)∧Aside0 (w'.heap[gb639]? =some (.cells #[(.slice A0_0 l0_0.length c0_0)] 26 (0,0)))∧Aside0 (Below w.heap.size w w'))
    case atStart=>exact ⟨(0),(0),(by first|rfl|(simp;done)|(simp [*];done)),(by first|rfl|(simp;done)|(simp [*];done)),H',⟨Nat.le_refl _⟩,⟨uR HO644⟩,⟨uK BK639⟩,⟨(vB HB)⟩⟩
    case round=>
     clear H'
     try clear hcz14_0 hfz14_0
     obtain ⟨x6_2,x20_2,rfl,rfl,HA,HK2,HO_18,BK639,HB⟩:=hrel;cases gk with
     |zero=>exact absurd HA.out (by simp [Q6.l0])
     |succ k2=>
      have H:=HA.out;clear HA;simp only [Q6.l0] at H
      by_cases c17:x20_2<(t642.length:Int)
      ·
       rw [if_pos c17] at H;have c17b0:=decide_eq_true c17;clear c17
       by_cases c18:0≤x20_2
       ·
        rw [if_pos c18] at H;have c18b0:=decide_eq_true c18;clear c18
        by_cases c19:x20_2<(t642.length:Int)
        ·
         rw [if_pos c19] at H;have c19b0:=decide_eq_true c19;clear c19
         by_cases c20:(rd t642 x20_2)=0
         ·
          rw [if_pos c20] at H;exact absurd H (by simp)
         ·
          rw [if_neg c20] at H;have c20b0:((rd t642 x20_2)==0)=false:=beq_eq_false_iff_ne.mpr c20;have c20b1:((rd t642 x20_2) !=0)=true:=bne_iff_ne.mpr c20
          by_cases c21:(Int.tmod a1 (rd t642 x20_2))=0
          ·
           rw [if_pos c21] at H;have c21b0:((Int.tmod a1 (rd t642 x20_2))==0)=true:=beq_iff_eq.mpr c21;have c21b1:((Int.tmod a1 (rd t642 x20_2)) !=0)=false:=bne_eq_false_iff_eq.mpr c21;clear c21;have H':=Aside0.mk H;clear H;have p645:0≤(x20_2:Int):=of_decide_eq_true (by first|(with_reducible assumption)|assumption);have q645:x20_2<(t642.length:Int):=of_decide_eq_true (by first|(with_reducible assumption)|assumption);obtain ⟨ad645,e645,hx645_0⟩:=Kd.at_int (Kd.R_reads' HO_18.out).2.2 x20_2 p645 q645;cases e645;replace p645:=eq_true p645;replace q645:=eq_true q645;go_wp2;go_roundg k2
           case measure=>have:=HJ2.out;have:=HK2.out;omega
           case rel=>exact ⟨(wrap64 (x6_2+(rd t642 x20_2))),(wrap64 (x20_2+1)),(by first|rfl|(simp;done)|(simp [*];done)),(by first|rfl|(simp;done)|(simp [*];done)),H',⟨by have:=HJ2.out;have:=HK2.out;omega⟩,⟨uR HO_18⟩,⟨uK BK639⟩,⟨(vB HB)⟩⟩
          ·
           rw [if_neg c21] at H;have c21b0:((Int.tmod a1 (rd t642 x20_2))==0)=false:=beq_eq_false_iff_ne.mpr c21;have c21b1:((Int.tmod a1 (rd t642 x20_2)) !=0)=true:=bne_iff_ne.mpr c21;have H':=Aside0.mk H;clear H;have p645:0≤(x20_2:Int):=of_decide_eq_true (by first|(with_reducible assumption)|assumption);have q645:x20_2<(t642.length:Int):=of_decide_eq_true (by first|(with_reducible assumption)|assumption);obtain ⟨ad645,e645,hx645_0⟩:=Kd.at_int (Kd.R_reads' HO_18.out).2.2 x20_2 p645 q645;cases e645;replace p645:=eq_true p645;replace q645:=eq_true q645;go_wp2;go_roundg k2
           case measure=>have:=HJ2.out;have:=HK2.out;omega
           case rel=>exact ⟨(x6_2),(wrap64 (x20_2+1)),(by first|rfl|(simp;done)|(simp [*];done)),(by first|rfl|(simp;done)|(simp [*];done)),H',⟨by have:=HJ2.out;have:=HK2.out;omega⟩,⟨uR HO_18⟩,⟨uK BK639⟩,⟨(vB HB)⟩⟩
        ·
         rw [if_neg c19] at H;exact absurd H (by simp)
       ·
        rw [if_neg c18] at H;exact absurd H (by simp)
      ·
       rw [if_neg c17] at H;have c17b0:=decide_eq_false c17;clear c17;simp only [Option.some.injEq,Prod.mk.injEq] at H;obtain ⟨rfl,rfl⟩:=H;go_wp2
       go_ret2
       exact ⟨by first|rfl|(simp [Qf,Qg] <;>rfl)|(simp [*,Qf,Qg] <;>rfl),(vB HB)⟩
def Qcx.f (s0_0 : List Int) (s0_1 : Int) (s0_2 : Int) (a1 : Int) : Option (Bool × Int × Int) := (Qx.f s0_0 s0_1 s0_2 a1).bind fun bt646 => (some ((bt646.1 == 0), bt646.2.1, bt646.2.2))
set_option maxHeartbeats 8000000 in
set_option maxRecDepth 100000 in
theorem Qcx.calls (g : Nat) (s0_0 : List Int) (s0_1 : Int) (s0_2 : Int) (a1 : Int) (r1 : Bool) (r2 : Int) (r3 : Int) (w0 w : World) (hI : Qa w0 w g s0_0 s0_1 s0_2) (hB : Below w0.heap.size w0 w) (h : Qcx.f s0_0 s0_1 s0_2 a1 = some (r1, r2, r3)) :
 Calls Tryz.prog 161 #[.pointer (some ⟨g,0,none⟩), .int .i64 a1] w fun e w'=>e= .returned (.bool r1)∧Qa w0 w' g s0_0 r2 r3∧Below w0.heap.size w0 w'∧Qh w w' g none:=by
 have HI0:=Aside0.mk hI;have HK:=Aside0.mk (Qh.refl w g none);have HL:=Aside0.mk hB.size;clear hI;have HW0:=Aside0.mk hB.size;have HB:=Aside0.mk hB;clear hB;have H:((Qx.f s0_0 s0_1 s0_2 a1).bind fun bt646=>(some ((bt646.1==0),bt646.2.1,bt646.2.2)))=some (r1,r2,r3):=h;clear h;obtain ⟨⟨t646,t647,t648⟩,A3,H⟩:=bs H;(try dsimp only at H)
 simp only [Option.some.injEq,Prod.mk.injEq] at H;obtain ⟨rfl,rfl,rfl⟩:=H;go_enter Tryz.func161,Tryz.ntmps161;go_wp2_with (first|(refine gA (some 7) Tryz.func162 #[.pointer (some ⟨g,0,none⟩), .int .i64 a1] ?_;(with_reducible refine (Qx.calls g s0_0 s0_1 s0_2 a1 t646 t647 t648 w0 _ (Qa.vI HI0) (Qa.vB HB) A3.out).mono ?_);rintro e w4 ⟨rfl,hi,hb,hk⟩;refine ⟨_,rfl,?_⟩;replace HK:=Aside0.mk (Qh.trans (vK HK) hk (.inl rfl));replace HB:=Aside0.mk (hb);replace HI0:=Aside0.mk (hi);(try clear hb hk hi)))
 go_ret
 exact ⟨by first|rfl|(simp [Qf,Qg] <;>rfl)|(simp [*,Qf,Qg] <;>rfl),(Qa.vI HI0),(Qa.vB HB),(vK HK)⟩
def Qc5.f (l0_0 : List Int) (a1 : Int) : Option (Bool) := (Qct.f a1 0 (wrap64 ((shl .i64 1 (l0_0.length : Int)) - 1))).bind fun t650 => (some t650)
set_option maxHeartbeats 8000000 in
set_option maxRecDepth 100000 in
theorem Qc5.calls (A0_0 : Option Addr) (c0_0 : Nat) (l0_0 : List Int) (a1 : Int) (r : Bool) (w : World) (hr0_0 : Kd.C (Kd.int .i64) w A0_0 l0_0.length l0_0) (hc0_0 : l0_0.length ≤ c0_0) (h : Qc5.f l0_0 a1 = some r) :
 Calls Tryz.prog 199 #[.agg #[.slice A0_0 l0_0.length c0_0], .int .i64 a1] w fun e w'=>e= .returned (.bool r)∧Below w.heap.size w w':=by
 have hu26:=Tryz.underlying26;have HR0_0:=Aside0.mk hr0_0;have HC0_0:=Aside0.mk hc0_0;clear hr0_0 hc0_0;have HB:=Aside0.mk (Below.refl w.heap.size w);have H:((Qct.f a1 0 (wrap64 ((shl .i64 1 (l0_0.length:Int)) - 1))).bind fun t650=>(some t650))=some r:=h;clear h;obtain ⟨ji3,hji3⟩: ∃ j_:Int,(shl .i64 1 (l0_0.length:Int))=j_:=⟨_,rfl⟩
 replace H:((Qct.f a1 0 (wrap64 ((ji3) - 1))).bind fun t650=>(some t650))=some r:=by first|(rw [hji3] at H;exact H)|(simp only [hji3] at H ⊢;exact H)
 have hji3_:(IntKind.i64.wrap (1*2 ^ min (l0_0.length:Int).toNat 64))=ji3:=hji3;have hji3z:(l0_0.length:Int)≤64→(IntKind.i64.wrap (1*2 ^ (l0_0.length:Int).toNat))=ji3:=Qd2 hji3;have hji3p:(IntKind.i64.wrap (1*2 ^ min l0_0.length 64))=ji3:=hji3_;have hji3q:(l0_0.length:Int)≤64→(IntKind.i64.wrap (1*2 ^ l0_0.length))=ji3:=hji3z;have hji3r:(IntKind.i64.wrap (2 ^ min l0_0.length 64))=ji3:=by have h_:=hji3p;rw [Int.one_mul] at h_;exact h_
 have hji3s:(l0_0.length:Int)≤64→(IntKind.i64.wrap (2 ^ l0_0.length))=ji3:=fun hle_=>by have h_:=hji3q hle_;rw [Int.one_mul] at h_;exact h_
 have hji3u:(IntKind.i64.wrap (2 ^ min (l0_0.length:Int).toNat 64))=ji3:=by have h_:=hji3_;rw [Int.one_mul] at h_;exact h_
 have hji3v:(l0_0.length:Int)≤64→(IntKind.i64.wrap (2 ^ (l0_0.length:Int).toNat))=ji3:=fun hle_=>by have h_:=hji3z hle_;rw [Int.one_mul] at h_;exact h_
 have hji3y:(wrap64 (1*2 ^ min (l0_0.length:Int).toNat 64))=ji3:=(Qcw _).symm.trans hji3_;have hji3x:(l0_0.length:Int)≤64→(wrap64 (1*2 ^ (l0_0.length:Int).toNat))=ji3:=fun h_=>(Qcw _).symm.trans (hji3z h_)
 obtain ⟨t650,A4,H⟩:=bs H;(try dsimp only at H)
 obtain rfl:=Option.some.inj H;go_enter Tryz.func199,Tryz.ntmps199;go_wp2_with (first|(refine bE (N:=2) (cs:= #[.slice A0_0 l0_0.length c0_0]) (t:=26) ?_;intro gb649 hg w5 hbox hb;have BK649:=Aside0.mk (hbox);have GW649:=Aside0.mk ((by rw [hg];exact (Qd (uB HB)):w.heap.size≤gb649));have GE649:=GW649;replace HB:=Aside0.mk (Qc (uB HB) hb);clear hb hbox hg;have hcz6_0:=bC BK649;have hfz6_0:=Qe BK649.out 0)|((with_reducible refine Qcf (f:=192) rfl ?_);refine Qdp (some 11) rfl rfl Tryz.func192 (by kernel_rfl) rfl #[.int .i64 a1, .int .i64 0, .int .i64 (wrap64 ((ji3) - 1))] rfl (by (try simp only [List.map_toArray,List.map_cons,List.map_nil]);first|done|(simp only [hji3];rfl)|rfl|(simp only [List.length_drop,List.length_take];rfl)) ?_;(with_reducible refine (Qct.calls a1 0 (wrap64 ((ji3) - 1)) t650 _ A4.out).mono ?_);rintro e w' ⟨rfl,⟨nd,rfl⟩⟩;refine ⟨_,rfl,?_⟩))
 go_ret
 exact ⟨by first|rfl|(simp [Qf,Qg] <;>rfl)|(simp only [←hji3];first|rfl|(simp [Qf,Qg] <;>rfl))|(simp [*,Qf,Qg] <;>rfl),(vB HB)⟩
def Qcd.l0 : Nat → Int → Int → List Int → Int → Int → Option (Int)
 |0,_,_,_,_,_=>none
 |k+1,x1,x5,x10,x11,x12=>if x12<x11 then (if 0≤x12 then (if x12<(x10.length:Int) then ((Qdr.f x1 x12).bind fun t653=>(if t653=true then (Qcd.l0 k x1 (Go.bits .andNot .i64 x5 (rd x10 x12)) x10 x11 (wrap64 (x12+1))) else (Qcd.l0 k x1 x5 x10 x11 (wrap64 (x12+1))))) else (none)) else (none)) else (some x5)
def Qcd.f (k : Nat) (l0_0 : List Int) (a1 : Int) : Option (Int) := Qcd.l0 k a1 a1 l0_0 (l0_0.length : Int) 0
theorem Qcd.mono_l : ∀ k, (∀ y0 y1 y2 y3 y4, LeO (Qcd.l0 k y0 y1 y2 y3 y4) (Qcd.l0 (k + 1) y0 y1 y2 y3 y4))
 |0=>fun _ _ _ _ _ r h=>by simp [Qcd.l0] at h
 |k+1=>by
  have ih0:=Qcd.mono_l k
  ·
   intro y0 y1 y2 y3 y4;unfold Qcd.l0
   repeat' first
   |(with_reducible exact ih0 _ _ _ _ _)
   |(with_reducible exact LeO.refl _)
   |(with_reducible exact LeO.none _)
   |(with_reducible refine LeO.ite ?_ ?_)
   |(with_reducible refine LeO.bind ?_ (fun _=> ?_))
   |exact ih0 _ _ _ _ _
   |exact LeO.none _
   |refine LeO.ite ?_ ?_
   |refine LeO.bind ?_ (fun _=> ?_)
theorem Qcd.mono : ∀ a0 a1 k, LeO (Qcd.f k a0 a1) (Qcd.f (k + 1) a0 a1) := by
 intro a0 a1 k;have ih0:=Qcd.mono_l k;unfold Qcd.f
 repeat' (with_reducible first|apply ih0|exact LeO.refl _|exact LeO.none _|refine LeO.ite ?_ ?_|refine LeO.bind ?_ (fun _=> ?_))
set_option maxHeartbeats 8000000 in
set_option maxRecDepth 100000 in
theorem Qcd.calls (k : Nat) (A0_0 : Option Addr) (c0_0 : Nat) (l0_0 : List Int) (a1 : Int) (r : Int) (w : World) (hr0_0 : Kd.C (Kd.int .i64) w A0_0 l0_0.length l0_0) (hc0_0 : l0_0.length ≤ c0_0) (h : Qcd.f k l0_0 a1 = some r) :
 Calls Tryz.prog 292 #[.agg #[.slice A0_0 l0_0.length c0_0], .int .i64 a1] w fun e w'=>e= .returned (.int .i64 r)∧Below w.heap.size w w':=by
 have hu26:=Tryz.underlying26;have HR0_0:=Aside0.mk hr0_0;have HC0_0:=Aside0.mk hc0_0;clear hr0_0 hc0_0;have HB:=Aside0.mk (Below.refl w.heap.size w);have H:(Qcd.l0 k a1 a1 l0_0 (l0_0.length:Int) 0)=some r:=h;clear h;have H':=Aside0.mk H;clear H;go_enter Tryz.func292,Tryz.ntmps292;go_wp2_with (first|(refine bE (N:=2) (cs:= #[.slice A0_0 l0_0.length c0_0]) (t:=26) ?_;intro gb651 hg w3 hbox hb;have BK651:=Aside0.mk (hbox);have GW651:=Aside0.mk ((by rw [hg];exact (Qd (uB HB)):w.heap.size≤gb651));have GE651:=GW651;replace HB:=Aside0.mk (Qc (uB HB) hb);clear hb hbox hg;have hcz4_0:=bC BK651;have hfz4_0:=Qe BK651.out 0))
 go_loopg [5,12] k (fun kq v5 v12 w'=> ∃ (x5_1:Int) (x12_1:Int),v5= .int .i64 x5_1∧v12= .int .i64 x12_1∧Aside0 (Qcd.l0 kq a1 x5_1 l0_0 (l0_0.length:Int) x12_1=some r)∧Aside0 (kq≤k)∧Aside0 (w'.heap[gb651]? =some (.cells #[(.slice A0_0 l0_0.length c0_0)] 26 (0,0)))∧Aside0 (Below w.heap.size w w'))
 case atStart=>exact ⟨(a1),(0),(by first|rfl|(simp;done)|(simp [*];done)),(by first|rfl|(simp;done)|(simp [*];done)),H',⟨Nat.le_refl _⟩,⟨uK BK651⟩,⟨(vB HB)⟩⟩
 case round=>
  clear H'
  try clear hcz4_0 hfz4_0
  obtain ⟨x5_1,x12_1,rfl,rfl,HA,HK1,BK651,HB⟩:=hrel;cases gk with
  |zero=>exact absurd HA.out (by simp [Qcd.l0])
  |succ k1=>
   have H:=HA.out;clear HA;simp only [Qcd.l0] at H
   by_cases c5:x12_1<(l0_0.length:Int)
   ·
    rw [if_pos c5] at H;have c5b0:=decide_eq_true c5;clear c5
    by_cases c6:0≤x12_1
    ·
     rw [if_pos c6] at H;have c6b0:=decide_eq_true c6;clear c6
     by_cases c7:x12_1<(l0_0.length:Int)
     ·
      rw [if_pos c7] at H;have c7b0:=decide_eq_true c7;clear c7;obtain ⟨t653,A8,H⟩:=bs H;(try dsimp only at H)
      by_cases c9:t653=true
      ·
       subst c9;rw [if_pos rfl] at H;have H':=Aside0.mk H;clear H;have p652:0≤(x12_1:Int):=of_decide_eq_true (by first|(with_reducible assumption)|assumption);have q652:x12_1<(l0_0.length:Int):=of_decide_eq_true (by first|(with_reducible assumption)|assumption);obtain ⟨ad652,e652,hx652_0⟩:=Kd.at_int HR0_0.out x12_1 p652 q652;cases e652;replace hx652_0:=(HB.out.cell (World.block_lt_of_cell? w _ hx652_0)).trans hx652_0;replace p652:=eq_true p652;replace q652:=eq_true q652;go_wp2_with (first|(refine gA (some 19) Tryz.func253 #[.int .i64 a1, .int .i64 x12_1] ?_;(with_reducible refine (Qdr.calls a1 x12_1 true _ A8.out).mono ?_);rintro e w' ⟨rfl,⟨nd,rfl⟩⟩;refine ⟨_,rfl,?_⟩));go_roundg k1
       case measure=>have:=HK1.out;omega
       case rel=>exact ⟨(Go.bits .andNot .i64 x5_1 (rd l0_0 x12_1)),(wrap64 (x12_1+1)),(by first|rfl|(simp;done)|(simp [*];done)),(by first|rfl|(simp;done)|(simp [*];done)),H',⟨by have:=HK1.out;omega⟩,⟨uK BK651⟩,⟨(vB HB)⟩⟩
      ·
       replace c9:=Bool.eq_false_iff.mpr c9;subst c9;rw [if_neg (show ¬ (false=true) by decide)] at H;have H':=Aside0.mk H;clear H;have p652:0≤(x12_1:Int):=of_decide_eq_true (by first|(with_reducible assumption)|assumption);have q652:x12_1<(l0_0.length:Int):=of_decide_eq_true (by first|(with_reducible assumption)|assumption);obtain ⟨ad652,e652,hx652_0⟩:=Kd.at_int HR0_0.out x12_1 p652 q652;cases e652;replace hx652_0:=(HB.out.cell (World.block_lt_of_cell? w _ hx652_0)).trans hx652_0;replace p652:=eq_true p652;replace q652:=eq_true q652;go_wp2_with (first|(refine gA (some 19) Tryz.func253 #[.int .i64 a1, .int .i64 x12_1] ?_;(with_reducible refine (Qdr.calls a1 x12_1 false _ A8.out).mono ?_);rintro e w' ⟨rfl,⟨nd,rfl⟩⟩;refine ⟨_,rfl,?_⟩));go_roundg k1
       case measure=>have:=HK1.out;omega
       case rel=>exact ⟨(x5_1),(wrap64 (x12_1+1)),(by first|rfl|(simp;done)|(simp [*];done)),(by first|rfl|(simp;done)|(simp [*];done)),H',⟨by have:=HK1.out;omega⟩,⟨uK BK651⟩,⟨(vB HB)⟩⟩
     ·
      rw [if_neg c7] at H;exact absurd H (by simp)
    ·
     rw [if_neg c6] at H;exact absurd H (by simp)
   ·
    rw [if_neg c5] at H;have c5b0:=decide_eq_false c5;clear c5;obtain rfl:=Option.some.inj H;go_wp2
    go_ret
    exact ⟨by first|rfl|(simp [Qf,Qg] <;>rfl)|(simp [*,Qf,Qg] <;>rfl),(vB HB)⟩
end Go.Proofs.YtkgngggppcmpfaaGreat.L
end
section
namespace Go.Proofs.YtkgngggppcmpfaaGreat.L
open Go.RowKit Go.Proofs.YtkgngggppcmpfaaGreatW.PrintWords Go.Proofs.YtkgngggppcmpfaaGreatW.PrintLast Go.Proofs.YtkgngggppcmpfaaGreatW.PrintMore
attribute [local go_sem] Q2 Q4 Qbd Qbe Qz Q0 Q3 Q5
set_option linter.unusedVariables false
set_option linter.unusedSimpArgs false
def Qeb.f (a0 : Int) (a1 : Int) : Option (Int) := if a0 < a1 then (some a0) else (some a1)
set_option maxHeartbeats 8000000 in
set_option maxRecDepth 100000 in
theorem Qeb.calls (a0 : Int) (a1 : Int) (r : Int) (w : World) (h : Qeb.f a0 a1 = some r) :
 Calls Tryz.prog 339 #[.int .i64 a0, .int .i64 a1] w fun e w'=>e= .returned (.int .i64 r)∧Drawn0 w w':=by
 have H:(if a0<a1 then (some a0) else (some a1))=some r:=h;clear h
 by_cases c3:a0<a1
 ·
  rw [if_pos c3] at H;have c3b0:=decide_eq_true c3;clear c3;obtain rfl:=Option.some.inj H;go_enter Tryz.func339,Tryz.ntmps339;go_wp2
  go_ret
  exact ⟨by first|rfl|(simp;done)|(simp [*];done),by repeat (first|exact Drawn0.refl _|apply Drawn0.step)⟩
 ·
  rw [if_neg c3] at H;have c3b0:=decide_eq_false c3;clear c3;obtain rfl:=Option.some.inj H;go_enter Tryz.func339,Tryz.ntmps339;go_wp2
  go_ret
  exact ⟨by first|rfl|(simp;done)|(simp [*];done),by repeat (first|exact Drawn0.refl _|apply Drawn0.step)⟩
end Go.Proofs.YtkgngggppcmpfaaGreat.L
end
section
namespace Go.Proofs.YtkgngggppcmpfaaGreat.L
open Go.RowKit Go.Proofs.YtkgngggppcmpfaaGreatW.PrintWords Go.Proofs.YtkgngggppcmpfaaGreatW.PrintLast Go.Proofs.YtkgngggppcmpfaaGreatW.PrintMore Go.Proofs.YtkgngggppcmpfaaGreat.X
attribute [local go_sem] Q2 Q4 Qbd Qbe Qz Q0 Q3 Q5
set_option linter.unusedVariables false
set_option linter.unusedSimpArgs false
def Qb1.f (s0_0 : List Int) (s0_1 : Int) (s0_2 : Int) (l1_0 : List Int) : Option (Int × Int × Int) := (Qeb.f (l1_0.length : Int) 12).bind fun t655 => ((Qx.f s0_0 s0_1 s0_2 256).bind fun bt656 => ((Qx.f s0_0 bt656.2.1 bt656.2.2 16).bind fun bt659 => (if 0 ≤ t655 then ((Qcx.f s0_0 bt659.2.1 bt659.2.2 12).bind fun bt662 => (if bt662.1 = true then ((Qcj.f s0_0 bt662.2.1 bt662.2.2 (([(-1), shl .i64 1 t655, 0, wrap64 ((shl .i64 1 t655) - 1), 4611686018427387904] : List Int))).bind fun bt668 => (some (bt668.1, bt668.2.1, bt668.2.2))) else (some (Go.bits .and .i64 (wrap64 (bt656.1 + (wrap64 (256 * bt659.1)))) (wrap64 ((shl .i64 1 t655) - 1)), bt662.2.1, bt662.2.2)))) else (none))))
def Qb1.T5 : Bool × List (List Nat × List Nat) := (true, [([], []), ([], []), ([1], [1]), ([], []), ([3], [3]), ([4], [4]), ([2, 5], [2, 5]), ([0, 6], [0, 6]), ([7, 7, 0, 1, 2, 3, 4, 5, 6, 7], [7])])
def Qb1.B5 : List Nat := [0, 0, 2, 0, 8, 24, 62, 127, 255]
theorem Qb1.tab5 : rtab .any (Qh6 Tryz.f297 5) = Qb1.T5 := by kernel_rfl
theorem Qb1.bits5 : Qer Qb1.T5.2 Qb1.B5 = true := by kernel_rfl
set_option maxHeartbeats 8000000 in
set_option maxRecDepth 100000 in
theorem Qb1.calls (g : Nat) (s0_0 : List Int) (s0_1 : Int) (s0_2 : Int) (A1_0 : Option Addr) (c1_0 : Nat) (l1_0 : List Int) (r1 : Int) (r2 : Int) (r3 : Int) (w0 w : World) (hI : Qa w0 w g s0_0 s0_1 s0_2) (hB : Below w0.heap.size w0 w) (hr1_0 : Kd.C (Kd.int .i64) w A1_0 l1_0.length l1_0) (hc1_0 : l1_0.length ≤ c1_0) (hf1_0 : ∀ ad, A1_0 = some ad → 0 < l1_0.length → ad.block ≠ g) (h : Qb1.f s0_0 s0_1 s0_2 l1_0 = some (r1, r2, r3)) :
 Calls Tryz.prog 297 #[.pointer (some ⟨g,0,none⟩), .agg #[.slice A1_0 l1_0.length c1_0]] w fun e w'=>e= .returned (.int .i64 r1)∧Qa w0 w' g s0_0 r2 r3∧Below w0.heap.size w0 w'∧Qh w w' g none:=by
 have hu26:=Tryz.underlying26;have HR1_0:=Aside0.mk hr1_0;have HC1_0:=Aside0.mk hc1_0;clear hr1_0 hc1_0;have HI0:=Aside0.mk hI;have HK:=Aside0.mk (Qh.refl w g none);have HL:=Aside0.mk hB.size;clear hI;have HW0:=Aside0.mk hB.size;have HB:=Aside0.mk hB;clear hB;have H:((Qeb.f (l1_0.length:Int) 12).bind fun t655=>((Qx.f s0_0 s0_1 s0_2 256).bind fun bt656=>((Qx.f s0_0 bt656.2.1 bt656.2.2 16).bind fun bt659=>(if 0≤t655 then ((Qcx.f s0_0 bt659.2.1 bt659.2.2 12).bind fun bt662=>(if bt662.1=true then ((Qcj.f s0_0 bt662.2.1 bt662.2.2 (([(-1),shl .i64 1 t655,0,wrap64 ((shl .i64 1 t655) - 1),4611686018427387904] :List Int))).bind fun bt668=>(some (bt668.1,bt668.2.1,bt668.2.2))) else (some (Go.bits .and .i64 (wrap64 (bt656.1+(wrap64 (256*bt659.1)))) (wrap64 ((shl .i64 1 t655) - 1)),bt662.2.1,bt662.2.2)))) else (none)))))=some (r1,r2,r3):=h;clear h;obtain ⟨t655,A3,H⟩:=bs H;(try dsimp only at H)
 obtain ⟨⟨t656,t657,t658⟩,A4,H⟩:=bs H;(try dsimp only at H)
 obtain ⟨⟨t659,t660,t661⟩,A5,H⟩:=bs H;(try dsimp only at H)
 by_cases c6:0≤t655
 ·
  rw [if_pos c6] at H;have c6b0:=eq_true c6;have c6b1:=decide_eq_true c6;clear c6;obtain ⟨ji7,hji7⟩: ∃ j_:Int,(shl .i64 1 t655)=j_:=⟨_,rfl⟩
  replace H:((Qcx.f s0_0 t660 t661 12).bind fun bt662=>(if bt662.1=true then ((Qcj.f s0_0 bt662.2.1 bt662.2.2 (([(-1),ji7,0,wrap64 ((ji7) - 1),4611686018427387904] :List Int))).bind fun bt668=>(some (bt668.1,bt668.2.1,bt668.2.2))) else (some (Go.bits .and .i64 (wrap64 (t656+(wrap64 (256*t659)))) (wrap64 ((ji7) - 1)),bt662.2.1,bt662.2.2))))=some (r1,r2,r3):=by first|(rw [hji7] at H;exact H)|(simp only [hji7] at H ⊢;exact H)
  (try rw [hji7] at A3)
  (try rw [hji7] at A4)
  (try rw [hji7] at A5)
  have hji7_:(IntKind.i64.wrap (1*2 ^ min t655.toNat 64))=ji7:=hji7;have hji7z:t655≤64→(IntKind.i64.wrap (1*2 ^ t655.toNat))=ji7:=Qd2 hji7;have hji7u:(IntKind.i64.wrap (2 ^ min t655.toNat 64))=ji7:=by have h_:=hji7_;rw [Int.one_mul] at h_;exact h_
  have hji7v:t655≤64→(IntKind.i64.wrap (2 ^ t655.toNat))=ji7:=fun hle_=>by have h_:=hji7z hle_;rw [Int.one_mul] at h_;exact h_
  have hji7y:(wrap64 (1*2 ^ min t655.toNat 64))=ji7:=(Qcw _).symm.trans hji7_;have hji7x:t655≤64→(wrap64 (1*2 ^ t655.toNat))=ji7:=fun h_=>(Qcw _).symm.trans (hji7z h_)
  obtain ⟨⟨t662,t663,t664⟩,A8,H⟩:=bs H;(try dsimp only at H)
  by_cases c9:t662=true
  ·
   subst c9;rw [if_pos rfl] at H;have c10b0:=eq_true (of_decide_eq_true (by first|(with_reducible assumption)|assumption):0≤t655);have c11b0:=eq_true (of_decide_eq_true (by first|(with_reducible assumption)|assumption):0≤t655);obtain ⟨y665,hy665⟩: ∃ y_:List Int,y_=(([(-1),ji7,0,wrap64 ((ji7) - 1),4611686018427387904] :List Int)):=⟨_,rfl⟩
   replace H:((Qcj.f s0_0 t663 t664 y665).bind fun bt668=>(some (bt668.1,bt668.2.1,bt668.2.2)))=some (r1,r2,r3):=by first|(rw [hy665];with_reducible exact H)|(have H2_:=(Option.bind_some _ _).symm.trans H;rw [hy665];with_reducible exact H2_)|(have H2_:=(Option.bind_some _ _).symm.trans H;with_reducible exact H2_)|with_reducible exact H|(rw [hy665];exact H)|exact H
   have Ny665:=Aside0.mk hy665;clear hy665;obtain ⟨⟨t668,t669,t670⟩,A12,H⟩:=bs H;(try dsimp only at H)
   simp only [Option.some.injEq,Prod.mk.injEq] at H;obtain ⟨rfl,rfl,rfl⟩:=H;go_enter Tryz.func297,Tryz.ntmps297
   try go_wp2_with (first|(refine bE (N:=3) (cs:= #[.slice A1_0 l1_0.length c1_0]) (t:=26) ?_;intro gb654 hg w13 hbox hb;replace HB:=Aside0.mk (Qc (Qa.vB HB) hb);have BK654:=Aside0.mk (hbox);have GW654:=Aside0.mk ((by rw [hg];exact (Qbs (w:=w) (g:=g) (row:=none) (vK HK)):w.heap.size≤gb654));have GE654:=Aside0.mk ((Nat.le_trans HW0.out (by rw [hg];exact (Qbs (w:=w) (g:=g) (row:=none) (vK HK)):w.heap.size≤gb654):w0.heap.size≤gb654));replace HK:=Aside0.mk (Qh.trans (vK HK) (Qh.of_below hb g none) (.inl rfl));have NB0_654:=Aside0.mk ((by rw [hg];exact Nat.ne_of_lt (Qa.lt (show Qa w0 _ g s0_0 s0_1 s0_2 from (Qa.vI HI0))):g≠gb654));have NB654_0:=Aside0.mk ((by rw [hg];exact Nat.ne_of_gt (Qa.lt (show Qa w0 _ g s0_0 s0_1 s0_2 from (Qa.vI HI0))):gb654≠g));replace HI0:=Aside0.mk (Qa.below (Qa.vI HI0) hb);clear hb hbox hg;have hnb14:=NB654_0.out;have hnc14:=NB0_654.out;have hcz15_0:=bC BK654;have hfz15_0:=Qe BK654.out 0)|(refine gA (some 10) Tryz.func339 #[.int .i64 (l1_0.length:Int), .int .i64 12] ?_;(with_reducible refine (Qeb.calls (l1_0.length:Int) 12 t655 _ A3.out).mono ?_);rintro e w' ⟨rfl,⟨nd,rfl⟩⟩;refine ⟨_,rfl,?_⟩)|(refine gA (some 12) Tryz.func162 #[.pointer (some ⟨g,0,none⟩), .int .i64 256] ?_;(with_reducible refine (Qx.calls g s0_0 s0_1 s0_2 256 t656 t657 t658 w0 _ (Qa.vI HI0) (Qa.vB HB) A4.out).mono ?_);rintro e w16 ⟨rfl,hi,hb,hk⟩;refine ⟨_,rfl,?_⟩;replace BK654:=Aside0.mk (Qh.blk hk (g':=gb654) (o:= .cells #[.slice A1_0 l1_0.length c1_0] 26 (0,0)) (uK BK654) NB654_0.out (by simp));replace HK:=Aside0.mk (Qh.trans (vK HK) hk (.inl rfl));replace HB:=Aside0.mk (hb);replace HI0:=Aside0.mk (hi);(try clear hb hk hi))|(refine gA (some 14) Tryz.func162 #[.pointer (some ⟨g,0,none⟩), .int .i64 16] ?_;(with_reducible refine (Qx.calls g s0_0 t657 t658 16 t659 t660 t661 w0 _ (Qa.vI HI0) (Qa.vB HB) A5.out).mono ?_);rintro e w17 ⟨rfl,hi,hb,hk⟩;refine ⟨_,rfl,?_⟩;replace BK654:=Aside0.mk (Qh.blk hk (g':=gb654) (o:= .cells #[.slice A1_0 l1_0.length c1_0] 26 (0,0)) (uK BK654) NB654_0.out (by simp));replace HK:=Aside0.mk (Qh.trans (vK HK) hk (.inl rfl));replace HB:=Aside0.mk (hb);replace HI0:=Aside0.mk (hi);(try clear hb hk hi))|(refine gA (some 23) Tryz.func161 #[.pointer (some ⟨g,0,none⟩), .int .i64 12] ?_;(with_reducible refine (Qcx.calls g s0_0 t660 t661 12 true t663 t664 w0 _ (Qa.vI HI0) (Qa.vB HB) A8.out).mono ?_);rintro e w18 ⟨rfl,hi,hb,hk⟩;refine ⟨_,rfl,?_⟩;replace BK654:=Aside0.mk (Qh.blk hk (g':=gb654) (o:= .cells #[.slice A1_0 l1_0.length c1_0] 26 (0,0)) (uK BK654) NB654_0.out (by simp));replace HK:=Aside0.mk (Qh.trans (vK HK) hk (.inl rfl));replace HB:=Aside0.mk (hb);replace HI0:=Aside0.mk (hi);(try clear hb hk hi)))
   replace BK654:=Aside0.mk (Qs BK654.out);replace HI0:=Aside0.mk (Qa.drew HI0.out);replace HK:=Aside0.mk (Qet HK.out);replace HB:=Aside0.mk (Qm HB.out);refine sU (n:=9) (S:=fun w'=>True) (ds:= []) trivial (fun hHeld=> ?_);refine Qfe Qb1.tab5 Qb1.bits5 (fun HT_ HW_=> ?_);generalize w18.drew=w19 at BK654 HI0 HK HB hHeld ⊢;refine pU 0 24 ?_;refine pU 1 25 ?_;refine pU 2 26 ?_;refine pU 3 27 ?_;refine pU 4 28 ?_;refine pU 5 29 ?_;refine oU 6 (some 30) fun K hK=> ?_
   refine Kd.R_lit_step (Kd.int .i64) _ 3 ?hg (N:=30) ?hd (xs:=([(-1),ji7,0,wrap64 ((ji7) - 1),4611686018427387904] :List Int)) (inner:= [.int .i64 (-1), .int .i64 ji7, .int .i64 0, .int .i64 (wrap64 ((ji7) - 1)), .int .i64 4611686018427387904]) (ok:=fun _=>True) (okp:=fun _=>True) ?hr ?hp (fun _ hk=>hk) trivial (Below.refl _ _) (Nat.le_refl _) (by simp) ?_;(case hd=>rfl);(case hg=>rfl);(case hr=>first|(go_simp;done)|(go_simp;rfl));(case hp=>exact (Reps.one (show Kd.M (Kd.int .i64) _ _ _ (-1) [.int .i64 (-1)] from rfl) (Reps.one (show Kd.M (Kd.int .i64) _ _ _ ji7 [.int .i64 ji7] from rfl) (Reps.one (show Kd.M (Kd.int .i64) _ _ _ 0 [.int .i64 0] from rfl) (Reps.one (show Kd.M (Kd.int .i64) _ _ _ (wrap64 ((ji7) - 1)) [.int .i64 (wrap64 ((ji7) - 1))] from rfl) (Reps.one (show Kd.M (Kd.int .i64) _ _ _ 4611686018427387904 [.int .i64 4611686018427387904] from rfl) (Reps.none _ _)))))))
   intro v666 w20 ho21 hb hg_ hnew_;clear hg_ hnew_
   (first|rw [←Ny665.out] at ho21|(simp only [Int.reduceToNat] at ho21;rw [←Ny665.out] at ho21))
   have HO667:=Aside0.mk (Kd.R_lower ho21 (Qbs (w:=w) (g:=g) (row:=none) (vK HK)));replace HI0:=Aside0.mk (Qa.below (Qa.vI HI0) hb);replace BK654:=Aside0.mk (Qb (uK BK654) hb);replace HK:=Aside0.mk (Qh.trans (vK HK) (Qh.of_below hb g none) (.inl rfl));replace HB:=Aside0.mk (Qc (Qa.vB HB) hb);clear hb ho21;obtain ⟨Ao22,co22,eo22⟩:=Kd.R_slice HO667.out
   (first|subst eo22|(injection eo22 with f1_ f2_ f3_;have f4_:=f1_.symm;have f5_:=f3_.symm;clear f1_ f2_ f3_;subst f4_;subst f5_))
   refine hK.out _ _ trivial (fun hHeld=> ?_);clear hK K;refine nU 30 ?_;refine oU 7 (some 31) fun K hK=> ?_
   refine Qfv Tryz.func190 (by kernel_rfl) rfl #[.pointer (some ⟨g,0,none⟩), .slice Ao22 y665.length co22] (by rfl) rfl rfl (by (try simp only [List.map_toArray,List.map_cons,List.map_nil]);first|done|rfl|(simp only [List.length_drop,List.length_take];rfl)) ?_
   with_reducible refine (Qcj.calls g s0_0 t663 t664 _ _ y665 t668 t669 t670 w0 _ ?side1 ?side2 ?side3 ?side4 ?side5 A12.out).mono ?_
   (case side1=>repeat (first|(with_reducible first|exact HI0.out|apply Qa.alloc|apply Qa.drewN|apply Qa.drew|apply Qa.set_1|apply Qa.set_2|refine Qa.far ?_ NB0_654.out _)|exact HI0.out))
   (case side2=>repeat (first|(with_reducible first|exact HB.out|apply Qj|apply Qi|apply Qm|refine Ql ?_ (Qa.ge HI0.out)|refine Ql ?_ GE654.out)|exact HB.out))
   (case side3=>repeat (first|exact (Kd.R_reads' HO667.out).2.2|(with_reducible refine Kd.C_alloc ?_ _)|(with_reducible refine Kd.C_drewN ?_ _)|(with_reducible refine Kd.C_drew ?_)))
   (case side4=>exact (Kd.R_reads' HO667.out).2.1)
   (case side5=>exact Qen (Qa.own_ne HI0.out HO667.out (by decide)))
   rintro e w23 ⟨rfl,hi,hb,hk⟩;refine ⟨_,rfl,?_⟩;replace BK654:=Aside0.mk (Qh.blk hk (g':=gb654) (o:= .cells #[.slice A1_0 l1_0.length c1_0] 26 (0,0)) (uK BK654) NB654_0.out (by simp));replace HO667:=Aside0.mk (Kd.R_mono (Kd.R_keep (Qa.apart (show Qa w0 _ g s0_0 t663 t664 from (Qa.vI HI0)) (uR HO667) (by decide)) hk (fun _ h=>h.2)) (fun _ h=>h.1));replace HK:=Aside0.mk (Qh.trans (vK HK) hk (.inl rfl));replace HB:=Aside0.mk (hb);replace HI0:=Aside0.mk (hi)
   skip
   skip
   skip
   skip
   refine hK.out _ _ trivial (fun hHeld=> ?_);clear hK K;refine nU 31 ?_;refine pU 8 4 ?_;refine dU ?_
   try go_wp2
   go_ret
   exact ⟨by first|rfl|(simp [Qf,Qg] <;>rfl)|(simp only [←hji7];first|rfl|(simp [Qf,Qg] <;>rfl))|(simp [*,Qf,Qg] <;>rfl),(Qa.vI HI0),(Qa.vB HB),(vK HK)⟩
  ·
   replace c9:=Bool.eq_false_iff.mpr c9;subst c9;rw [if_neg (show ¬ (false=true) by decide)] at H;simp only [Option.some.injEq,Prod.mk.injEq] at H;obtain ⟨rfl,rfl,rfl⟩:=H;go_enter Tryz.func297,Tryz.ntmps297;go_wp2_with (first|(refine bE (N:=3) (cs:= #[.slice A1_0 l1_0.length c1_0]) (t:=26) ?_;intro gb654 hg w24 hbox hb;replace HB:=Aside0.mk (Qc (Qa.vB HB) hb);have BK654:=Aside0.mk (hbox);have GW654:=Aside0.mk ((by rw [hg];exact (Qbs (w:=w) (g:=g) (row:=none) (vK HK)):w.heap.size≤gb654));have GE654:=Aside0.mk ((Nat.le_trans HW0.out (by rw [hg];exact (Qbs (w:=w) (g:=g) (row:=none) (vK HK)):w.heap.size≤gb654):w0.heap.size≤gb654));replace HK:=Aside0.mk (Qh.trans (vK HK) (Qh.of_below hb g none) (.inl rfl));have NB0_654:=Aside0.mk ((by rw [hg];exact Nat.ne_of_lt (Qa.lt (show Qa w0 _ g s0_0 s0_1 s0_2 from (Qa.vI HI0))):g≠gb654));have NB654_0:=Aside0.mk ((by rw [hg];exact Nat.ne_of_gt (Qa.lt (show Qa w0 _ g s0_0 s0_1 s0_2 from (Qa.vI HI0))):gb654≠g));replace HI0:=Aside0.mk (Qa.below (Qa.vI HI0) hb);clear hb hbox hg;have hnb25:=NB654_0.out;have hnc25:=NB0_654.out;have hcz26_0:=bC BK654;have hfz26_0:=Qe BK654.out 0)|(refine gA (some 10) Tryz.func339 #[.int .i64 (l1_0.length:Int), .int .i64 12] ?_;(with_reducible refine (Qeb.calls (l1_0.length:Int) 12 t655 _ A3.out).mono ?_);rintro e w' ⟨rfl,⟨nd,rfl⟩⟩;refine ⟨_,rfl,?_⟩)|(refine gA (some 12) Tryz.func162 #[.pointer (some ⟨g,0,none⟩), .int .i64 256] ?_;(with_reducible refine (Qx.calls g s0_0 s0_1 s0_2 256 t656 t657 t658 w0 _ (Qa.vI HI0) (Qa.vB HB) A4.out).mono ?_);rintro e w27 ⟨rfl,hi,hb,hk⟩;refine ⟨_,rfl,?_⟩;replace BK654:=Aside0.mk (Qh.blk hk (g':=gb654) (o:= .cells #[.slice A1_0 l1_0.length c1_0] 26 (0,0)) (uK BK654) NB654_0.out (by simp));replace HK:=Aside0.mk (Qh.trans (vK HK) hk (.inl rfl));replace HB:=Aside0.mk (hb);replace HI0:=Aside0.mk (hi);(try clear hb hk hi))|(refine gA (some 14) Tryz.func162 #[.pointer (some ⟨g,0,none⟩), .int .i64 16] ?_;(with_reducible refine (Qx.calls g s0_0 t657 t658 16 t659 t660 t661 w0 _ (Qa.vI HI0) (Qa.vB HB) A5.out).mono ?_);rintro e w28 ⟨rfl,hi,hb,hk⟩;refine ⟨_,rfl,?_⟩;replace BK654:=Aside0.mk (Qh.blk hk (g':=gb654) (o:= .cells #[.slice A1_0 l1_0.length c1_0] 26 (0,0)) (uK BK654) NB654_0.out (by simp));replace HK:=Aside0.mk (Qh.trans (vK HK) hk (.inl rfl));replace HB:=Aside0.mk (hb);replace HI0:=Aside0.mk (hi);(try clear hb hk hi))|(refine gA (some 23) Tryz.func161 #[.pointer (some ⟨g,0,none⟩), .int .i64 12] ?_;(with_reducible refine (Qcx.calls g s0_0 t660 t661 12 false t663 t664 w0 _ (Qa.vI HI0) (Qa.vB HB) A8.out).mono ?_);rintro e w29 ⟨rfl,hi,hb,hk⟩;refine ⟨_,rfl,?_⟩;replace BK654:=Aside0.mk (Qh.blk hk (g':=gb654) (o:= .cells #[.slice A1_0 l1_0.length c1_0] 26 (0,0)) (uK BK654) NB654_0.out (by simp));replace HK:=Aside0.mk (Qh.trans (vK HK) hk (.inl rfl));replace HB:=Aside0.mk (hb);replace HI0:=Aside0.mk (hi);(try clear hb hk hi)))
   go_ret
   exact ⟨by first|rfl|(simp [Qf,Qg] <;>rfl)|(simp only [←hji7];first|rfl|(simp [Qf,Qg] <;>rfl))|(simp [*,Qf,Qg] <;>rfl),(Qa.vI HI0),(Qa.vB HB),(vK HK)⟩
 ·
  rw [if_neg c6] at H;exact absurd H (by simp)
def Qbf.j0 : Nat → Int → Bool → List Int → Int → Int → List Int → Option (List Int × Int × Int × Int)
 |0,_,_,_,_,_,_=>none
 |k+1,x7,x25,x1000,x1001,x1002,x678000=>if x25=true then ((Qb1.f x1000 x1001 x1002 x678000).bind fun bt686=>((Qcd.f k x678000 (Go.bits .and .i64 x7 bt686.1)).bind fun t689=>((Qby.f k x678000 t689).bind fun t690=>(some (x678000,t690,bt686.2.1,bt686.2.2))))) else (some (x678000,x7,x1001,x1002))
def Qbf.f (k : Nat) (s0_0 : List Int) (s0_1 : Int) (s0_2 : Int) (a1 : Int) : Option (List Int × Int × Int × Int) := (Qw.f k s0_0 s0_1 s0_2 a1).bind fun bt672 => ((Qb1.f s0_0 bt672.2.1 bt672.2.2 bt672.1).bind fun bt678 => ((Qn.f k bt672.1).bind fun t681 => (if t681 = true then ((Qc5.f bt672.1 bt678.1).bind fun t682 => (if t682 = true then ((Qcx.f s0_0 bt678.2.1 bt678.2.2 12).bind fun bt683 => (Qbf.j0 k bt678.1 (!bt683.1) s0_0 bt683.2.1 bt683.2.2 bt672.1)) else (Qbf.j0 k bt678.1 false s0_0 bt678.2.1 bt678.2.2 bt672.1))) else (Qbf.j0 k bt678.1 false s0_0 bt678.2.1 bt678.2.2 bt672.1))))
theorem Qbf.mono_l : ∀ k, (∀ y0 y1 y2 y3 y4 y5, LeO (Qbf.j0 k y0 y1 y2 y3 y4 y5) (Qbf.j0 (k + 1) y0 y1 y2 y3 y4 y5))
 |0=>fun _ _ _ _ _ _ r h=>by simp [Qbf.j0] at h
 |k+1=>by
  have ih0:=Qbf.mono_l k
  ·
   intro y0 y1 y2 y3 y4 y5;unfold Qbf.j0
   repeat' first
   |(with_reducible exact ih0 _ _ _ _ _ _)
   |(with_reducible exact Qw.mono _ _ _ _ _)
   |(with_reducible exact Qby.mono _ _ _)
   |(with_reducible exact Qn.mono _ _)
   |(with_reducible exact Qcd.mono _ _ _)
   |(with_reducible exact LeO.refl _)
   |(with_reducible exact LeO.none _)
   |(with_reducible refine LeO.ite ?_ ?_)
   |(with_reducible refine LeO.bind ?_ (fun _=> ?_))
   |exact ih0 _ _ _ _ _ _
   |exact Qw.mono _ _ _ _ _
   |exact Qby.mono _ _ _
   |exact Qn.mono _ _
   |exact Qcd.mono _ _ _
   |exact LeO.none _
   |refine LeO.ite ?_ ?_
   |refine LeO.bind ?_ (fun _=> ?_)
theorem Qbf.mono : ∀ a0 a1 a2 a3 k, LeO (Qbf.f k a0 a1 a2 a3) (Qbf.f (k + 1) a0 a1 a2 a3) := by
 intro a0 a1 a2 a3 k;have ih0:=Qbf.mono_l k;unfold Qbf.f
 repeat' (with_reducible first|apply ih0|apply Qw.mono|apply Qby.mono|apply Qn.mono|apply Qcd.mono|exact LeO.refl _|exact LeO.none _|refine LeO.ite ?_ ?_|refine LeO.bind ?_ (fun _=> ?_))
def Qbf.T4 : Bool × List (List Nat × List Nat) := (true, [([], []), ([], []), ([], []), ([], []), ([], []), ([3, 4], [3, 4]), ([2, 5], [2, 5]), ([1, 6, 5], [1, 6]), ([0, 7, 7], [0, 7]), ([8, 8, 0, 1, 2, 3, 4, 5, 6, 7, 8], [2, 8])])
def Qbf.B4 : List Nat := [0, 0, 0, 0, 0, 24, 60, 126, 255, 511]
theorem Qbf.tab4 : rtab .any (Qh6 Tryz.f193 4) = Qbf.T4 := by kernel_rfl
theorem Qbf.bits4 : Qer Qbf.T4.2 Qbf.B4 = true := by kernel_rfl
set_option maxHeartbeats 8000000 in
set_option maxRecDepth 100000 in
theorem Qbf.calls (k : Nat) (g : Nat) (s0_0 : List Int) (s0_1 : Int) (s0_2 : Int) (a1 : Int) (r1 : List Int) (r2 : Int) (r3 : Int) (r4 : Int) (w0 w : World) (hI : Qa w0 w g s0_0 s0_1 s0_2) (hB : Below w0.heap.size w0 w) (h : Qbf.f k s0_0 s0_1 s0_2 a1 = some (r1, r2, r3, r4)) :
 Calls Tryz.prog 193 #[.pointer (some ⟨g,0,none⟩), .int .i64 a1] w fun e w'=> ∃ v0_:Value,e= .returned (.tuple #[.agg #[v0_], .int .i64 r2])∧Kd.R (Kd.int .i64) 3 w' w.heap.size (fun _=>True) v0_ r1∧Qa w0 w' g s0_0 r3 r4∧Below w0.heap.size w0 w'∧Qh w w' g none:=by
 have hu26:=Tryz.underlying26;have HI0:=Aside0.mk hI;have HK:=Aside0.mk (Qh.refl w g none);have HL:=Aside0.mk hB.size;clear hI;have HW0:=Aside0.mk hB.size;have HB:=Aside0.mk hB;clear hB;have H:((Qw.f k s0_0 s0_1 s0_2 a1).bind fun bt672=>((Qb1.f s0_0 bt672.2.1 bt672.2.2 bt672.1).bind fun bt678=>((Qn.f k bt672.1).bind fun t681=>(if t681=true then ((Qc5.f bt672.1 bt678.1).bind fun t682=>(if t682=true then ((Qcx.f s0_0 bt678.2.1 bt678.2.2 12).bind fun bt683=>(Qbf.j0 k bt678.1 (!bt683.1) s0_0 bt683.2.1 bt683.2.2 bt672.1)) else (Qbf.j0 k bt678.1 false s0_0 bt678.2.1 bt678.2.2 bt672.1))) else (Qbf.j0 k bt678.1 false s0_0 bt678.2.1 bt678.2.2 bt672.1)))))=some (r1,r2,r3,r4):=h;clear h;obtain ⟨⟨t672,t675,t676⟩,A3,H⟩:=bs H;(try dsimp only at H)
 obtain ⟨⟨t678,t679,t680⟩,A4,H⟩:=bs H;(try dsimp only at H)
 have HC5:=Aside0.mk H;clear H;go_enter Tryz.func193,Tryz.ntmps193;go_upto_region 3 with (first|(refine bE (N:=4) (cs:= #[.slice none 0 0]) (t:=26) ?_;intro gb671 hg w6 hbox hb;replace HB:=Aside0.mk (Qc (Qa.vB HB) hb);have BK671:=Aside0.mk (hbox);have GW671:=Aside0.mk ((by rw [hg];exact (Qbs (w:=w) (g:=g) (row:=none) (vK HK)):w.heap.size≤gb671));have GE671:=Aside0.mk ((Nat.le_trans HW0.out (by rw [hg];exact (Qbs (w:=w) (g:=g) (row:=none) (vK HK)):w.heap.size≤gb671):w0.heap.size≤gb671));replace HK:=Aside0.mk (Qh.trans (vK HK) (Qh.of_below hb g none) (.inl rfl));have NB0_671:=Aside0.mk ((by rw [hg];exact Nat.ne_of_lt (Qa.lt (show Qa w0 _ g s0_0 s0_1 s0_2 from (Qa.vI HI0))):g≠gb671));have NB671_0:=Aside0.mk ((by rw [hg];exact Nat.ne_of_gt (Qa.lt (show Qa w0 _ g s0_0 s0_1 s0_2 from (Qa.vI HI0))):gb671≠g));replace HI0:=Aside0.mk (Qa.below (Qa.vI HI0) hb);clear hb hbox hg)|(refine gA (some 10) Tryz.func181 #[.pointer (some ⟨g,0,none⟩), .int .i64 a1] ?_;(with_reducible refine (Qw.calls k g s0_0 s0_1 s0_2 a1 t672 t675 t676 w0 _ (Qa.vI HI0) (Qa.vB HB) A3.out).mono ?_);rintro e w7 ⟨v673,rfl,ho0,hi,hb,hk⟩;refine ⟨_,rfl,?_⟩;replace BK671:=Aside0.mk (Qh.blk hk (g':=gb671) (o:= .cells #[.slice none 0 0] 26 (0,0)) (uK BK671) NB671_0.out (by simp));have HO674:=Aside0.mk (Kd.R_lower ho0 (Qbs (w:=w) (g:=g) (row:=none) (vK HK)));replace HK:=Aside0.mk (Qh.trans (vK HK) hk (.inl rfl));replace HB:=Aside0.mk (hb);replace HI0:=Aside0.mk (hi);(try clear hb hk hi ho0))|(refine bE (N:=6) (cs:= #[.slice none 0 0]) (t:=26) ?_;intro gb677 hg w8 hbox hb;replace HO674:=Aside0.mk (Kd.R_below (uR HO674) hb);replace HB:=Aside0.mk (Qc (Qa.vB HB) hb);have BK677:=Aside0.mk (hbox);have GW677:=Aside0.mk ((by rw [hg];exact (Qbs (w:=w) (g:=g) (row:=none) (vK HK)):w.heap.size≤gb677));have GE677:=Aside0.mk ((Nat.le_trans HW0.out (by rw [hg];exact (Qbs (w:=w) (g:=g) (row:=none) (vK HK)):w.heap.size≤gb677):w0.heap.size≤gb677));replace HK:=Aside0.mk (Qh.trans (vK HK) (Qh.of_below hb g none) (.inl rfl));have NB671_677:=Aside0.mk ((by rw [hg];exact Nat.ne_of_lt (Qt (uK BK671)):gb671≠gb677));have NB677_671:=Aside0.mk ((by rw [hg];exact Nat.ne_of_gt (Qt (uK BK671)):gb677≠gb671));replace BK671:=Aside0.mk (Qb (uK BK671) hb);have NB0_677:=Aside0.mk ((by rw [hg];exact Nat.ne_of_lt (Qa.lt (show Qa w0 _ g s0_0 t675 t676 from (Qa.vI HI0))):g≠gb677));have NB677_0:=Aside0.mk ((by rw [hg];exact Nat.ne_of_gt (Qa.lt (show Qa w0 _ g s0_0 t675 t676 from (Qa.vI HI0))):gb677≠g));replace HI0:=Aside0.mk (Qa.below (Qa.vI HI0) hb);clear hb hbox hg;obtain ⟨Ao9,co9,eo9⟩:=Kd.R_slice HO674.out;subst eo9;have hnb10:=NB677_671.out;have hnc10:=NB671_677.out;have hnb11:=NB677_0.out;have hnc11:=NB0_677.out;have hcz12_0:=bC BK677;have hfz12_0:=Qe BK677.out 0)|(refine gA (some 13) Tryz.func297 #[.pointer (some ⟨g,0,none⟩), .agg #[.slice Ao9 t672.length co9]] ?_;(with_reducible refine (Qb1.calls g s0_0 t675 t676 _ _ t672 t678 t679 t680 w0 _ (Qa.vI HI0) (Qa.vB HB) ?side3 ?side4 ?side5 A4.out).mono ?_);(case side3=>refine (Kd.R_reads' (e:=3) (base:=w.heap.size) (ok:=fun k_=>True) (n:=t672.length) (c:=co9) ?_).2.2;exact (rF HO674 BK677 (.slice Ao9 t672.length co9)));(case side4=>exact (Kd.R_reads' HO674.out).2.1);(case side5=>exact Qen (Qa.own_ne HI0.out HO674.out (by decide)));rintro e w13 ⟨rfl,hi,hb,hk⟩;refine ⟨_,rfl,?_⟩;replace BK671:=Aside0.mk (Qh.blk hk (g':=gb671) (o:= .cells #[.slice none 0 0] 26 (0,0)) kF NB671_0.out (by simp));replace HO674:=Aside0.mk (Kd.R_mono (Kd.R_keep (Qa.apart (show Qa w0 _ g s0_0 t675 t676 from (Qa.vI HI0)) (rF HO674 BK677 (.slice Ao9 t672.length co9)) (by decide)) hk (fun _ h=>h.2)) (fun _ h=>h.1));replace BK677:=Aside0.mk (Qh.blk hk (g':=gb677) (o:= .cells #[.slice Ao9 t672.length co9] 26 (0,0)) bP NB677_0.out (by simp));replace HK:=Aside0.mk (Qh.trans (vK HK) hk (.inl rfl));replace HB:=Aside0.mk (hb);replace HI0:=Aside0.mk (hi);(try clear hb hk hi)))
 (try simp only [Act.put,List.setIfInBounds_toArray,List.set_cons_zero,List.set_cons_succ])
 go_cut [25] (fun v25 wc=> ∃ (kq:Nat) (x25_4:Bool) (x1001_4:Int) (x1002_4:Int),v25= .bool x25_4∧Aside0 (Qbf.j0 kq t678 x25_4 s0_0 x1001_4 x1002_4 t672=some (r1,r2,r3,r4))∧Aside0 (kq≤k)∧Aside0 (Kd.R (Kd.int .i64) 3 wc w.heap.size (fun _=>True) (.slice Ao9 t672.length co9) t672)∧Aside0 (wc.heap[gb671]? =some (.cells #[(.slice none 0 0)] 26 (0,0)))∧Aside0 (wc.heap[gb677]? =some (.cells #[(.slice Ao9 t672.length co9)] 26 (0,0)))∧Aside0 (Qa w0 wc g s0_0 x1001_4 x1002_4)∧Aside0 (Qh w wc g none)∧Aside0 (Below w0.heap.size w0 wc))
 case first=>
  have H:=HC5.out;clear HC5;obtain ⟨t681,A14,H⟩:=bs H;(try dsimp only at H)
  by_cases c15:t681=true
  ·
   subst c15;rw [if_pos rfl] at H;obtain ⟨t682,A16,H⟩:=bs H;(try dsimp only at H)
   by_cases c17:t682=true
   ·
    subst c17;rw [if_pos rfl] at H;obtain ⟨⟨t683,t684,t685⟩,A18,H⟩:=bs H;(try dsimp only at H)
    have H':=Aside0.mk H;clear H;have hnb19:=NB677_671.out;have hnc19:=NB671_677.out;have hnb20:=NB677_0.out;have hnc20:=NB0_677.out;have hcz21_0:=bC BK677;have hfz21_0:=Qe BK677.out 0;go_wp2_with (first|(refine gA (some 15) Tryz.func183 #[.agg #[.slice Ao9 t672.length co9]] ?_;(with_reducible refine (Qn.calls k _ _ t672 true _ (uE HO674) ?side2 A14.out).mono ?_);(case side2=>exact (Kd.R_reads' HO674.out).2.1);rintro e w22 ⟨rfl,hb⟩;refine ⟨_,rfl,?_⟩;replace HO674:=Aside0.mk (Kd.R_below (uR HO674) hb);replace HI0:=Aside0.mk (Qa.below (Qa.vI HI0) hb);replace BK671:=Aside0.mk (Qb (uK BK671) hb);replace BK677:=Aside0.mk (Qb (uK BK677) hb);replace HK:=Aside0.mk (Qh.trans (vK HK) (Qh.of_below hb g none) (.inl rfl));replace HB:=Aside0.mk (Qc (Qa.vB HB) hb);(try clear hb);have hcz23_0:=bC BK677;have hfz23_0:=Qe BK677.out 0)|(go_at_call 199;(with_reducible refine (Qc5.calls _ _ t672 t678 true _ (uE HO674) ?side2 A16.out).mono ?_);(case side2=>exact (Kd.R_reads' HO674.out).2.1);rintro e w24 ⟨rfl,hb⟩;replace HO674:=Aside0.mk (Kd.R_below (uR HO674) hb);replace HI0:=Aside0.mk (Qa.below (Qa.vI HI0) hb);replace BK671:=Aside0.mk (Qb (uK BK671) hb);replace BK677:=Aside0.mk (Qb (uK BK677) hb);replace HK:=Aside0.mk (Qh.trans (vK HK) (Qh.of_below hb g none) (.inl rfl));replace HB:=Aside0.mk (Qc (Qa.vB HB) hb);(try clear hb))|(go_at_call 161;(with_reducible refine (Qcx.calls g s0_0 t679 t680 12 t683 t684 t685 w0 _ (Qa.vI HI0) (Qa.vB HB) A18.out).mono ?_);rintro e w25 ⟨rfl,hi,hb,hk⟩;replace BK671:=Aside0.mk (Qh.blk hk (g':=gb671) (o:= .cells #[.slice none 0 0] 26 (0,0)) (uK BK671) NB671_0.out (by simp));replace HO674:=Aside0.mk (Kd.R_mono (Kd.R_keep (Qa.apart (show Qa w0 _ g s0_0 t679 t680 from (Qa.vI HI0)) (uR HO674) (by decide)) hk (fun _ h=>h.2)) (fun _ h=>h.1));replace BK677:=Aside0.mk (Qh.blk hk (g':=gb677) (o:= .cells #[.slice Ao9 t672.length co9] 26 (0,0)) (uK BK677) NB677_0.out (by simp));replace HK:=Aside0.mk (Qh.trans (vK HK) hk (.inl rfl));replace HB:=Aside0.mk (hb);replace HI0:=Aside0.mk (hi);(try clear hb hk hi)))
    go_meet
    case rel=>exact ⟨_,(!t683),(t684),(t685),(by first|rfl|(simp;done)|(simp [*];done)),H',⟨by first|omega|exact Nat.le_refl _⟩,⟨uR HO674⟩,⟨uK BK671⟩,⟨uK BK677⟩,⟨(Qa.vI HI0)⟩,⟨(vK HK)⟩,⟨(Qa.vB HB)⟩⟩
   ·
    replace c17:=Bool.eq_false_iff.mpr c17;subst c17;rw [if_neg (show ¬ (false=true) by decide)] at H;have H':=Aside0.mk H;clear H;have hnb26:=NB677_671.out;have hnc26:=NB671_677.out;have hnb27:=NB677_0.out;have hnc27:=NB0_677.out;have hcz28_0:=bC BK677;have hfz28_0:=Qe BK677.out 0;go_wp2_with (first|(refine gA (some 15) Tryz.func183 #[.agg #[.slice Ao9 t672.length co9]] ?_;(with_reducible refine (Qn.calls k _ _ t672 true _ (uE HO674) ?side2 A14.out).mono ?_);(case side2=>exact (Kd.R_reads' HO674.out).2.1);rintro e w29 ⟨rfl,hb⟩;refine ⟨_,rfl,?_⟩;replace HO674:=Aside0.mk (Kd.R_below (uR HO674) hb);replace HI0:=Aside0.mk (Qa.below (Qa.vI HI0) hb);replace BK671:=Aside0.mk (Qb (uK BK671) hb);replace BK677:=Aside0.mk (Qb (uK BK677) hb);replace HK:=Aside0.mk (Qh.trans (vK HK) (Qh.of_below hb g none) (.inl rfl));replace HB:=Aside0.mk (Qc (Qa.vB HB) hb);(try clear hb);have hcz30_0:=bC BK677;have hfz30_0:=Qe BK677.out 0)|(go_at_call 199;(with_reducible refine (Qc5.calls _ _ t672 t678 false _ (uE HO674) ?side2 A16.out).mono ?_);(case side2=>exact (Kd.R_reads' HO674.out).2.1);rintro e w31 ⟨rfl,hb⟩;replace HO674:=Aside0.mk (Kd.R_below (uR HO674) hb);replace HI0:=Aside0.mk (Qa.below (Qa.vI HI0) hb);replace BK671:=Aside0.mk (Qb (uK BK671) hb);replace BK677:=Aside0.mk (Qb (uK BK677) hb);replace HK:=Aside0.mk (Qh.trans (vK HK) (Qh.of_below hb g none) (.inl rfl));replace HB:=Aside0.mk (Qc (Qa.vB HB) hb);(try clear hb)))
    go_meet
    case rel=>exact ⟨_,(false),(t679),(t680),(by first|rfl|(simp;done)|(simp [*];done)),H',⟨by first|omega|exact Nat.le_refl _⟩,⟨uR HO674⟩,⟨uK BK671⟩,⟨uK BK677⟩,⟨(Qa.vI HI0)⟩,⟨(vK HK)⟩,⟨(Qa.vB HB)⟩⟩
  ·
   replace c15:=Bool.eq_false_iff.mpr c15;subst c15;rw [if_neg (show ¬ (false=true) by decide)] at H;have H':=Aside0.mk H;clear H;have hnb32:=NB677_671.out;have hnc32:=NB671_677.out;have hnb33:=NB677_0.out;have hnc33:=NB0_677.out;have hcz34_0:=bC BK677;have hfz34_0:=Qe BK677.out 0;go_wp2_with (first|(refine gA (some 15) Tryz.func183 #[.agg #[.slice Ao9 t672.length co9]] ?_;(with_reducible refine (Qn.calls k _ _ t672 false _ (uE HO674) ?side2 A14.out).mono ?_);(case side2=>exact (Kd.R_reads' HO674.out).2.1);rintro e w35 ⟨rfl,hb⟩;refine ⟨_,rfl,?_⟩;replace HO674:=Aside0.mk (Kd.R_below (uR HO674) hb);replace HI0:=Aside0.mk (Qa.below (Qa.vI HI0) hb);replace BK671:=Aside0.mk (Qb (uK BK671) hb);replace BK677:=Aside0.mk (Qb (uK BK677) hb);replace HK:=Aside0.mk (Qh.trans (vK HK) (Qh.of_below hb g none) (.inl rfl));replace HB:=Aside0.mk (Qc (Qa.vB HB) hb);(try clear hb)))
   go_meet
   case rel=>exact ⟨_,(false),(t679),(t680),(by first|rfl|(simp;done)|(simp [*];done)),H',⟨by first|omega|exact Nat.le_refl _⟩,⟨uR HO674⟩,⟨uK BK671⟩,⟨uK BK677⟩,⟨(Qa.vI HI0)⟩,⟨(vK HK)⟩,⟨(Qa.vB HB)⟩⟩
 case rest=>
  clear HC5
  try clear hcz12_0 hfz12_0
  obtain ⟨kq,x25_4,x1001_4,x1002_4,rfl,HA,HJ4,HO_678000,BK671,BK677,HI0,HK,HB⟩:=hcut;cases kq with
  |zero=>exact absurd HA.out (by simp [Qbf.j0])
  |succ kj4=>
   have H:=HA.out;clear HA;simp only [Qbf.j0] at H
   by_cases c36:x25_4=true
   ·
    subst c36;rw [if_pos rfl] at H;obtain ⟨⟨t686,t687,t688⟩,A37,H⟩:=bs H;(try dsimp only at H)
    obtain ⟨t689,A38,H⟩:=bs H;(try dsimp only at H)
    obtain ⟨t690,A39,H⟩:=bs H;(try dsimp only at H)
    simp only [Option.some.injEq,Prod.mk.injEq] at H;obtain ⟨rfl,rfl,rfl,rfl⟩:=H
    try go_wp2
    replace HO_678000:=Aside0.mk (Kd.R_drew HO_678000.out);replace BK671:=Aside0.mk (Qs BK671.out);replace BK677:=Aside0.mk (Qs BK677.out);replace HI0:=Aside0.mk (Qa.drew HI0.out);replace HK:=Aside0.mk (Qet HK.out);replace HB:=Aside0.mk (Qm HB.out);refine sU (n:=10) (S:=fun w'=>w'.cell? ⟨gb677,0,none⟩=some (.slice Ao9 t672.length co9)) (ds:= []) ((Qb6 BK677.out 0).trans rfl) (fun hHeld=> ?_);refine Qfe Qbf.tab4 Qbf.bits4 (fun HT_ HW_=> ?_);generalize wc.drew=w40 at HO_678000 BK671 BK677 HI0 HK HB hHeld ⊢;refine pU 2 28 ?_;refine pU 3 29 ?_;refine tU 0 26 hHeld ?_;refine tU 1 27 hHeld ?_;refine tU 4 30 hHeld ?_;refine oU 5 (some 31) fun K hK=> ?_
    refine Qfv Tryz.func297 (by kernel_rfl) rfl #[.pointer (some ⟨g,0,none⟩), .agg #[.slice Ao9 t672.length co9]] (by rfl) rfl rfl (by (try simp only [List.map_toArray,List.map_cons,List.map_nil]);first|done|rfl|(simp only [List.length_drop,List.length_take];rfl)) ?_
    with_reducible refine (Qb1.calls g s0_0 x1001_4 x1002_4 _ _ t672 t686 t687 t688 w0 _ ?side1 ?side2 ?side3 ?side4 ?side5 A37.out).mono ?_
    (case side1=>repeat (first|(with_reducible first|exact HI0.out|apply Qa.alloc|apply Qa.drewN|apply Qa.drew|apply Qa.set_1|apply Qa.set_2|refine Qa.far ?_ NB0_671.out _|refine Qa.far ?_ NB0_677.out _)|exact HI0.out))
    (case side2=>repeat (first|(with_reducible first|exact HB.out|apply Qj|apply Qi|apply Qm|refine Ql ?_ (Qa.ge HI0.out)|refine Ql ?_ GE671.out|refine Ql ?_ GE677.out)|exact HB.out))
    (case side3=>repeat (first|exact (Kd.R_reads' HO_678000.out).2.2|(with_reducible refine Kd.C_alloc ?_ _)|(with_reducible refine Kd.C_drewN ?_ _)|(with_reducible refine Kd.C_drew ?_)))
    (case side4=>exact (Kd.R_reads' HO_678000.out).2.1)
    (case side5=>exact Qen (Qa.own_ne HI0.out HO_678000.out (by decide)))
    rintro e w41 ⟨rfl,hi,hb,hk⟩;refine ⟨_,rfl,?_⟩;replace HO_678000:=Aside0.mk (Kd.R_mono (Kd.R_keep (Qa.apart (show Qa w0 _ g s0_0 x1001_4 x1002_4 from (Qa.vI HI0)) (uR HO_678000) (by decide)) hk (fun _ h=>h.2)) (fun _ h=>h.1));replace BK671:=Aside0.mk (Qh.blk hk (g':=gb671) (o:= .cells #[.slice none 0 0] 26 (0,0)) (uK BK671) NB671_0.out (by simp));replace BK677:=Aside0.mk (Qh.blk hk (g':=gb677) (o:= .cells #[.slice Ao9 t672.length co9] 26 (0,0)) (uK BK677) NB677_0.out (by simp));replace HK:=Aside0.mk (Qh.trans (vK HK) hk (.inl rfl));replace HB:=Aside0.mk (hb);replace HI0:=Aside0.mk (hi)
    skip
    skip
    skip
    skip
    refine hK.out _ _ ((Qb6 BK677.out 0).trans rfl) (fun hHeld=> ?_);clear hK K;refine nU 31 ?_;refine pU 6 32 ?_;refine oU 7 (some 33) fun K hK=> ?_
    refine Qfv Tryz.func292 (by kernel_rfl) rfl #[.agg #[.slice Ao9 t672.length co9], .int .i64 (Go.bits .and .i64 t678 t686)] (by rfl) rfl rfl (by (try simp only [List.map_toArray,List.map_cons,List.map_nil]);first|done|rfl|(simp only [List.length_drop,List.length_take];rfl)) ?_
    with_reducible refine (Qcd.calls kj4 _ _ t672 (Go.bits .and .i64 t678 t686) t689 _ ?side1 ?side2 A38.out).mono ?_
    (case side1=>repeat (first|exact (Kd.R_reads' HO_678000.out).2.2|(with_reducible refine Kd.C_alloc ?_ _)|(with_reducible refine Kd.C_drewN ?_ _)|(with_reducible refine Kd.C_drew ?_)))
    (case side2=>exact (Kd.R_reads' HO_678000.out).2.1)
    rintro e w42 ⟨rfl,hb⟩;refine ⟨_,rfl,?_⟩;replace HO_678000:=Aside0.mk (Kd.R_below (uR HO_678000) hb);replace BK671:=Aside0.mk (Qb (uK BK671) hb);replace BK677:=Aside0.mk (Qb (uK BK677) hb);replace HI0:=Aside0.mk (Qa.below (Qa.vI HI0) hb);replace HK:=Aside0.mk (Qh.trans (vK HK) (Qh.of_below hb g none) (.inl rfl));replace HB:=Aside0.mk (Qc (Qa.vB HB) hb)
    skip
    skip
    skip
    skip
    refine hK.out _ _ ((Qb6 BK677.out 0).trans rfl) (fun hHeld=> ?_);clear hK K;refine nU 33 ?_;refine oU 8 (some 34) fun K hK=> ?_
    refine Qfv Tryz.func298 (by kernel_rfl) rfl #[.agg #[.slice Ao9 t672.length co9], .int .i64 t689] (by rfl) rfl rfl (by (try simp only [List.map_toArray,List.map_cons,List.map_nil]);first|done|rfl|(simp only [List.length_drop,List.length_take];rfl)) ?_
    with_reducible refine (Qby.calls kj4 _ _ t672 t689 t690 _ ?side1 ?side2 A39.out).mono ?_
    (case side1=>repeat (first|exact (Kd.R_reads' HO_678000.out).2.2|(with_reducible refine Kd.C_alloc ?_ _)|(with_reducible refine Kd.C_drewN ?_ _)|(with_reducible refine Kd.C_drew ?_)))
    (case side2=>exact (Kd.R_reads' HO_678000.out).2.1)
    rintro e w43 ⟨rfl,hb⟩;refine ⟨_,rfl,?_⟩;replace HO_678000:=Aside0.mk (Kd.R_below (uR HO_678000) hb);replace BK671:=Aside0.mk (Qb (uK BK671) hb);replace BK677:=Aside0.mk (Qb (uK BK677) hb);replace HI0:=Aside0.mk (Qa.below (Qa.vI HI0) hb);replace HK:=Aside0.mk (Qh.trans (vK HK) (Qh.of_below hb g none) (.inl rfl));replace HB:=Aside0.mk (Qc (Qa.vB HB) hb)
    skip
    skip
    skip
    skip
    refine hK.out _ _ ((Qb6 BK677.out 0).trans rfl) (fun hHeld=> ?_);clear hK K;refine nU 34 ?_;refine pU 9 7 ?_;refine dU ?_;have hnb44:=NB677_671.out;have hnc44:=NB671_677.out;have hnb45:=NB677_0.out;have hnc45:=NB0_677.out;have hcz46_0:=bC BK677;have hfz46_0:=Qe BK677.out 0;have hnb47:=NB671_0.out;have hnc47:=NB0_671.out;have hcz48_0:=bC BK671;have hfz48_0:=Qe BK671.out 0
    try go_wp2
    refine bodyPost_ret (Qd0 rfl _ _ gb671 26 #[.slice Ao9 t672.length co9] (0,0) _ rfl bP Tryz.underlying26 rfl (by kernel_rfl)) rfl ?_;exact ⟨_,by first|rfl|(simp [Qf,Qg] <;>rfl)|(simp [*,Qf,Qg] <;>rfl),by (with_reducible repeat (first|apply Kd.R_alloc|apply Kd.R_drewN|apply Kd.R_drew));exact Kd.R_mono (Kd.R_far (p:=⟨gb671,0,none⟩) (Kd.R_types HO_678000.out BK671.out (by decide)) (fun _ hk=>hk.2) (.slice Ao9 t672.length co9)) (fun _ hk=>trivial),(Qa.vI HI0),(Qa.vB HB),(vK HK)⟩
   ·
    replace c36:=Bool.eq_false_iff.mpr c36;subst c36;rw [if_neg (show ¬ (false=true) by decide)] at H;simp only [Option.some.injEq,Prod.mk.injEq] at H;obtain ⟨rfl,rfl,rfl,rfl⟩:=H;have hnb49:=NB677_671.out;have hnc49:=NB671_677.out;have hnb50:=NB677_0.out;have hnc50:=NB0_677.out;have hcz51_0:=bC BK677;have hfz51_0:=Qe BK677.out 0;have hnb52:=NB671_0.out;have hnc52:=NB0_671.out;have hcz53_0:=bC BK671;have hfz53_0:=Qe BK671.out 0;go_wp2;refine bodyPost_ret (Qd0 rfl _ _ gb671 26 #[.slice Ao9 t672.length co9] (0,0) _ rfl bP Tryz.underlying26 rfl (by kernel_rfl)) rfl ?_;exact ⟨_,by first|rfl|(simp [Qf,Qg] <;>rfl)|(simp [*,Qf,Qg] <;>rfl),by (with_reducible repeat (first|apply Kd.R_alloc|apply Kd.R_drewN|apply Kd.R_drew));exact Kd.R_mono (Kd.R_far (p:=⟨gb671,0,none⟩) (Kd.R_types HO_678000.out BK671.out (by decide)) (fun _ hk=>hk.2) (.slice Ao9 t672.length co9)) (fun _ hk=>trivial),(Qa.vI HI0),(Qa.vB HB),(vK HK)⟩
def Qcn.f (k : Nat) (l0 : List Int) : Option (List Int × Int) := (Qbf.f k l0 0 0 8).bind fun bt693 => (some (bt693.1, bt693.2.1))
theorem Qcn.mono : ∀ a0 k, LeO (Qcn.f k a0) (Qcn.f (k + 1) a0) := by
 intro a0 k;unfold Qcn.f
 repeat' (with_reducible first|apply Qbf.mono|exact LeO.refl _|exact LeO.none _|refine LeO.ite ?_ ?_|refine LeO.bind ?_ (fun _=> ?_))
set_option maxHeartbeats 8000000 in
set_option maxRecDepth 100000 in
theorem Qcn.calls (k : Nat) (A0 : Option Addr) (c0 : Nat) (l0 : List Int) (r1 : List Int) (r2 : Int) (w : World) (hr0 : Kd.C (Kd.int .u8) w A0 l0.length l0) (hc0 : l0.length ≤ c0) (h : Qcn.f k l0 = some (r1, r2)) :
 Calls Tryz.prog 50 #[.slice A0 l0.length c0] w fun e w'=> ∃ v0_:Value,e= .returned (.tuple #[.agg #[v0_], .int .i64 r2])∧Kd.R (Kd.int .i64) 3 w' w.heap.size (fun _=>True) v0_ r1∧Below w.heap.size w w':=by
 have hu26:=Tryz.underlying26;have hu94:=Tryz.underlying94;have HR0:=Aside0.mk hr0;have HC0:=Aside0.mk hc0;clear hr0 hc0;have HB:=Aside0.mk (Below.refl w.heap.size w);have H:((Qbf.f k l0 0 0 8).bind fun bt693=>(some (bt693.1,bt693.2.1)))=some (r1,r2):=h;clear h;obtain ⟨⟨t693,t696,t697,t698⟩,A2,H⟩:=bs H;(try dsimp only at H)
 simp only [Option.some.injEq,Prod.mk.injEq] at H;obtain ⟨rfl,rfl⟩:=H;go_enter Tryz.func50,Tryz.ntmps50;go_wp2_with (first|((with_reducible refine Qbl (N:=2) rfl ?_);refine Qdf ?hg (N:=2) ?hd (cs:= #[.slice none 0 0]) (t:=26) ?hr ?_;(case hd=>rfl);(case hg=>rfl);(case hr=>first|(go_simp;done)|(go_simp;rfl));intro gb691 hg w3 hbox hb;have BK691:=Aside0.mk (hbox);have GW691:=Aside0.mk ((by rw [hg];exact (Qd (by repeat (first|(with_reducible first|exact HB.out|apply Qj|apply Qi|apply Qm)|exact HB.out))):w.heap.size≤gb691));have GE691:=GW691;replace HB:=Aside0.mk (Qc (by repeat (first|(with_reducible first|exact HB.out|apply Qj|apply Qi|apply Qm)|exact HB.out)) hb);clear hb hbox hg)|((with_reducible refine Qbl (N:=7) rfl ?_);refine Qdf ?hg (N:=7) ?hd (cs:= #[.slice A0 l0.length c0, .int .i64 0, .int .u64 0]) (t:=94) ?hr ?_;(case hd=>rfl);(case hg=>rfl);(case hr=>first|(go_simp;done)|(go_simp;rfl));intro gb692 hg w4 hbox hb;have HI692:=Aside0.mk ((⟨_,_,hbox,(by rw [hg];exact (Qd (by repeat (first|(with_reducible first|exact HB.out|apply Qj|apply Qi|apply Qm|refine Ql ?_ GE691.out)|exact HB.out))):w.heap.size≤gb692),HR0.out⟩:Qa w _ gb692 l0 0 0));have GW692:=Aside0.mk ((by rw [hg];exact (Qd (by repeat (first|(with_reducible first|exact HB.out|apply Qj|apply Qi|apply Qm|refine Ql ?_ GE691.out)|exact HB.out))):w.heap.size≤gb692));have GE692:=GW692;replace HB:=Aside0.mk (Qc (by repeat (first|(with_reducible first|exact HB.out|apply Qj|apply Qi|apply Qm|refine Ql ?_ GE691.out)|exact HB.out)) hb);have NB691_692:=Aside0.mk ((by rw [hg];exact Nat.ne_of_lt (Qt (g:=gb691) (o:= .cells #[.slice none 0 0] 26 (0,0)) (by (with_reducible repeat (first|refine Qq ?_ _|refine Qs ?_|refine Qp ?_ _));exact BK691.out)):gb691≠gb692));have NB692_691:=Aside0.mk ((by rw [hg];exact Nat.ne_of_gt (Qt (g:=gb691) (o:= .cells #[.slice none 0 0] 26 (0,0)) (by (with_reducible repeat (first|refine Qq ?_ _|refine Qs ?_|refine Qp ?_ _));exact BK691.out)):gb692≠gb691));replace BK691:=Aside0.mk (Qb (g:=gb691) (o:= .cells #[.slice none 0 0] 26 (0,0)) (by (with_reducible repeat (first|refine Qq ?_ _|refine Qs ?_|refine Qp ?_ _));exact BK691.out) hb);clear hb hbox hg)|((with_reducible refine Qcf (f:=193) rfl ?_);refine Qdp (some 9) rfl rfl Tryz.func193 (by kernel_rfl) rfl #[.pointer (some ⟨gb692,0,none⟩), .int .i64 8] rfl (by (try simp only [List.map_toArray,List.map_cons,List.map_nil]);first|done|rfl|(simp only [List.length_drop,List.length_take];rfl)) ?_;(with_reducible refine (Qbf.calls k gb692 l0 0 0 8 t693 t696 t697 t698 w _ ?side1 ?side2 A2.out).mono ?_);(case side1=>repeat (first|(with_reducible first|exact HI692.out|apply Qa.alloc|apply Qa.drewN|apply Qa.drew|apply Qa.set_1|apply Qa.set_2|refine Qa.far ?_ NB692_691.out _)|exact HI692.out));(case side2=>repeat (first|(with_reducible first|exact HB.out|apply Qj|apply Qi|apply Qm|refine Ql ?_ (Qa.ge HI692.out)|refine Ql ?_ GE691.out)|exact HB.out));rintro e w5 ⟨v694,rfl,ho0,hi,hb,hk⟩;refine ⟨_,rfl,?_⟩;replace BK691:=Aside0.mk (Qh.blk hk (g':=gb691) (o:= .cells #[.slice none 0 0] 26 (0,0)) (by (with_reducible repeat (first|refine Qq ?_ _|refine Qs ?_|refine Qp ?_ _));exact BK691.out) NB691_692.out (by simp));have HO695:=Aside0.mk (Kd.R_lower ho0 (Qd (by repeat (first|(with_reducible first|exact HB.out|apply Qj|apply Qi|apply Qm|refine Ql ?_ (Qa.ge HI692.out)|refine Ql ?_ GE691.out)|exact HB.out))));replace HB:=Aside0.mk (hb);replace HI692:=Aside0.mk (hi);(try clear hb);(try clear hb2);(try clear hk);(try clear hi);(try clear ho0);obtain ⟨Ao6,co6,eo6⟩:=Kd.R_slice HO695.out;subst eo6;have hnb7:=NB691_692.out;have hnc7:=NB692_691.out;have hcz8_0:w5.cell? ⟨gb691,0,none⟩=some (.slice none 0 0):=(Qb6 BK691.out 0).trans rfl;have hfz8_0:=Qe BK691.out 0));refine bodyPost_ret (Qd0 rfl _ _ gb691 26 #[.slice Ao6 t693.length co6] (0,0) _ rfl (by (with_reducible repeat (first|refine Qq ?_ _|refine Qs ?_|refine Qp ?_ _));refine Qec (cs:= #[.slice none 0 0]) ?_ 0 _ rfl;(with_reducible repeat (first|refine Qq ?_ _|refine Qs ?_|refine Qp ?_ _));exact BK691.out) Tryz.underlying26 rfl (by kernel_rfl)) rfl ?_;exact ⟨_,by first|rfl|(simp [Qf,Qg] <;>rfl)|(simp [*,Qf,Qg] <;>rfl),by (with_reducible repeat (first|apply Kd.R_alloc|apply Kd.R_drewN|apply Kd.R_drew));exact Kd.R_mono (Kd.R_far (p:=⟨gb691,0,none⟩) (Kd.R_types HO695.out BK691.out (by decide)) (fun _ hk=>hk.2) (.slice Ao6 t693.length co6)) (fun _ hk=>trivial),(Qa.vB HB)⟩
end Go.Proofs.YtkgngggppcmpfaaGreat.L
end
section
namespace Go.Proofs.YtkgngggppcmpfaaGreat.L
open Go.RowKit Go.Proofs.YtkgngggppcmpfaaGreatW.PrintWords Go.Proofs.YtkgngggppcmpfaaGreatW.PrintLast Go.Proofs.YtkgngggppcmpfaaGreatW.PrintMore
attribute [local go_sem] Q2 Q4 Qbd Qbe Qz Q0 Q3 Q5
set_option linter.unusedVariables false
set_option linter.unusedSimpArgs false
def Qc4.f (k : Nat) (l0_0 : List Int) (a1 : Int) : Option (List Int) := (Qo.f k (fun x => Qbo.f k l0_0 x) [a1]).bind fun cy => if 0 < cy.length then some (cy.getD 0 []) else none
theorem Qc4.mono : ∀ a0 a1 k, LeO (Qc4.f k a0 a1) (Qc4.f (k + 1) a0 a1) := fun l0 a1 k => LeO.bind (Qo.mono (fun x => Qbo.mono _ _ _) k [a1]) fun s => LeO.refl _
theorem Qc4.lit (k : Nat) (A0 : Option Addr) (c0 : Nat) (l0 : List Int) (x y : Int) (w : World) (hr0 : Kd.C (Kd.int .i64) w A0 l0.length l0) (hc0 : l0.length ≤ c0) (h : Qbo.f k l0 x = some y) :
 Qo.Fvb Tryz.prog 235 #[.agg #[.slice A0 l0.length c0]] #[] (.int .i64 x) (.int .i64 y) w:=by
 intro W hb;show Calls Tryz.prog 235 #[.agg #[.slice A0 l0.length c0], .int .i64 x] W _
 exact Qbo.calls k A0 c0 l0 x y W (Kd.C_below hr0 hb) hc0 h
open Go.Proofs.YtkgngggppcmpfaaGreat.X in
set_option maxHeartbeats 1600000 in
set_option maxRecDepth 100000 in
theorem Qc4.calls (k : Nat) (A0_0 : Option Addr) (c0_0 : Nat) (l0_0 : List Int) (a1 : Int) (r : List Int) (w : World) (hr0_0 : Kd.C (Kd.int .i64) w A0_0 l0_0.length l0_0) (hc0_0 : l0_0.length ≤ c0_0) (h : Qc4.f k l0_0 a1 = some r) :
 Calls Tryz.prog 194 #[.agg #[.slice A0_0 l0_0.length c0_0], .int .i64 a1] w fun e w'=> ∃ v0_:Value,e= .returned v0_∧Kd.R (Kd.int .i64) 3 w' w.heap.size (fun _=>True) v0_ r∧Below w.heap.size w w':=by
 unfold Qc4.f at h;obtain ⟨cy,hs,h⟩:=Option.bind_eq_some_iff.mp h
 split at h
 ·
  rename_i hl;have HS:=Aside0.mk hs;have HF:=Aside0.mk (Option.some.inj h);have HL:=Aside0.mk hl;have HR:=Aside0.mk hr0_0;have HC:=Aside0.mk hc0_0;clear h hs hl hr0_0 hc0_0;have hu:=Tryz.underlying26;go_enter Tryz.func194,Tryz.ntmps194;go_wp2_with (first|((with_reducible refine Qbl (N:=6) rfl ?_);refine Kd.R_lit (Kd.int .i64) _ 3 ?hg (N:=6) ?hd (xs:=([a1] :List Int)) (inner:= [.int .i64 a1]) (ok:=fun _=>True) (okp:=fun _=>True) ?hr ?hp (fun _ hk=>hk) trivial (Below.refl _ _) (Nat.le_refl _) (by simp) ?_;(case hd=>rfl);(case hg=>rfl);(case hr=>first|(go_simp;done)|(go_simp;rfl));(case hp=>exact (Reps.one (show Kd.M (Kd.int .i64) _ _ _ a1 [.int .i64 a1] from rfl) (Reps.none _ _)));intro v6 w5 ho hb hg_ hnew_;have B5:=Aside0.mk (show Below w.heap.size w w5 from Qc (Qj (Below.refl _ _) _) hb);have HO:=Aside0.mk ho;have q5:=Qd6 hb (show (w.alloc (.cells #[.slice A0_0 l0_0.length c0_0] 26)).cell? ⟨w.heap.size,0,none⟩=some (.slice A0_0 l0_0.length c0_0) by simp);obtain ⟨A6,c6,e6,hl6,hC6⟩:=Kd.R_reads ho;subst e6;clear hg_ hnew_ ho hb));refine (Qo.calls k A6 c6 [a1] 235 #[.agg #[.slice A0_0 l0_0.length c0_0]] #[] (fun x=>Qbo.f k l0_0 x) cy _ (Qgt Tryz.func235 (by kernel_rfl) rfl) hC6 (by simp) (fun x y h=>Qc4.lit k _ _ l0_0 x y _ (Kd.C_below HR.out B5.out) HC.out h) HS.out).mono ?_;rintro e w7 ⟨v9,rfl,hR2,hb⟩;obtain ⟨g9,c9,e9,gb9,gl9,hg9⟩:=Kd.S_form hR2 HL.out;subst e9;obtain ⟨cs9,hcl,hM,hcc⟩:=Kd.S_get hR2 [] 0 (Int.le_refl 0) (by have:=HL.out;omega);obtain ⟨v11,rfl,hRv⟩:=hM;have hx:=hcc 0 v11 rfl;rw [show (0:Int).toNat=0 from rfl] at hx hRv;simp only [Qe9,Nat.zero_mul,Nat.add_zero] at hx;have HV:=Aside0.mk (Kd.R_mono (Kd.R_lower hRv B5.out.size) (ok':=fun _=>True) (fun _ _=>trivial));have B7:=Aside0.mk (Qc B5.out hb);have p9:(0:Int)<(cy.length:Int):=by have:=HL.out;omega
  have p9b:decide ((0:Int)<(cy.length:Int))=true:=decide_eq_true p9;rw [HF.out] at HV;clear hcc hcl hR2 hb hRv hg9 gb9 gl9 hC6;go_wp2
  go_ret
  exact ⟨_,rfl,HV.out,B7.out⟩
 ·
  cases h
end Go.Proofs.YtkgngggppcmpfaaGreat.L
end
section
namespace Go.Proofs.YtkgngggppcmpfaaGreat.L
open Go.RowKit Go.Proofs.YtkgngggppcmpfaaGreatW.PrintWords Go.Proofs.YtkgngggppcmpfaaGreatW.PrintLast Go.Proofs.YtkgngggppcmpfaaGreatW.PrintMore Go.Proofs.YtkgngggppcmpfaaGreat.X
attribute [local go_sem] Q2 Q4 Qbd Qbe Qz Q0 Q3 Q5
set_option linter.unusedVariables false
set_option linter.unusedSimpArgs false
def Qdc.f (k : Nat) (l0_0 : List Int) (a1 : Int) : Option (List Int × Bool) := (Qc0.f k l0_0 a1).bind fun t700 => (if t700 = true then ((Qc4.f k l0_0 a1).bind fun t701 => (some (t701, true))) else (some (([] : List Int), false)))
theorem Qdc.mono : ∀ a0 a1 k, LeO (Qdc.f k a0 a1) (Qdc.f (k + 1) a0 a1) := by
 intro a0 a1 k;unfold Qdc.f
 repeat' (with_reducible first|apply Qc4.mono|apply Qc0.mono|exact LeO.refl _|exact LeO.none _|refine LeO.ite ?_ ?_|refine LeO.bind ?_ (fun _=> ?_))
set_option maxHeartbeats 8000000 in
set_option maxRecDepth 100000 in
theorem Qdc.calls (k : Nat) (A0_0 : Option Addr) (c0_0 : Nat) (l0_0 : List Int) (a1 : Int) (r1 : List Int) (r2 : Bool) (w : World) (hr0_0 : Kd.C (Kd.int .i64) w A0_0 l0_0.length l0_0) (hc0_0 : l0_0.length ≤ c0_0) (h : Qdc.f k l0_0 a1 = some (r1, r2)) :
 Calls Tryz.prog 51 #[.agg #[.slice A0_0 l0_0.length c0_0], .int .i64 a1] w fun e w'=> ∃ v0_:Value,e= .returned (.tuple #[v0_, .bool r2])∧Kd.R (Kd.int .i64) 3 w' w.heap.size (fun _=>True) v0_ r1∧Below w.heap.size w w':=by
 have hu26:=Tryz.underlying26;have HR0_0:=Aside0.mk hr0_0;have HC0_0:=Aside0.mk hc0_0;clear hr0_0 hc0_0;have HB:=Aside0.mk (Below.refl w.heap.size w);have H:((Qc0.f k l0_0 a1).bind fun t700=>(if t700=true then ((Qc4.f k l0_0 a1).bind fun t701=>(some (t701,true))) else (some (([] :List Int),false))))=some (r1,r2):=h;clear h;obtain ⟨t700,A3,H⟩:=bs H;(try dsimp only at H)
 by_cases c4:t700=true
 ·
  subst c4;rw [if_pos rfl] at H;obtain ⟨t701,A5,H⟩:=bs H;(try dsimp only at H)
  simp only [Option.some.injEq,Prod.mk.injEq] at H;obtain ⟨rfl,rfl⟩:=H;go_enter Tryz.func51,Tryz.ntmps51;go_wp2_with (first|(refine bE (N:=2) (cs:= #[.slice A0_0 l0_0.length c0_0]) (t:=26) ?_;intro gb699 hg w6 hbox hb;have BK699:=Aside0.mk (hbox);have GW699:=Aside0.mk ((by rw [hg];exact (Qd (uB HB)):w.heap.size≤gb699));have GE699:=GW699;replace HB:=Aside0.mk (Qc (uB HB) hb);clear hb hbox hg;have hcz7_0:=bC BK699;have hfz7_0:=Qe BK699.out 0)|(refine gA (some 8) Tryz.func158 #[.agg #[.slice A0_0 l0_0.length c0_0], .int .i64 a1] ?_;(with_reducible refine (Qc0.calls k _ _ l0_0 a1 true _ (uD HR0_0 HB) HC0_0.out A3.out).mono ?_);rintro e w8 ⟨rfl,hb⟩;refine ⟨_,rfl,?_⟩;replace BK699:=Aside0.mk (Qb (uK BK699) hb);replace HB:=Aside0.mk (Qc (vB HB) hb);(try clear hb);have hcz9_0:=bC BK699;have hfz9_0:=Qe BK699.out 0)|(refine gA (some 12) Tryz.func194 #[.agg #[.slice A0_0 l0_0.length c0_0], .int .i64 a1] ?_;(with_reducible refine (Qc4.calls k _ _ l0_0 a1 t701 _ (uD HR0_0 HB) HC0_0.out A5.out).mono ?_);rintro e w10 ⟨v702,rfl,ho0,hb⟩;refine ⟨_,rfl,?_⟩;have HO703:=Aside0.mk (Kd.R_lower ho0 (Qd (vB HB)));replace BK699:=Aside0.mk (Qb (uK BK699) hb);replace HB:=Aside0.mk (Qc (vB HB) hb);(try clear hb ho0)))
  go_ret2
  exact ⟨_,by first|rfl|(simp [Qf,Qg] <;>rfl)|(simp [*,Qf,Qg] <;>rfl),uR HO703,(vB HB)⟩
 ·
  replace c4:=Bool.eq_false_iff.mpr c4;subst c4;rw [if_neg (show ¬ (false=true) by decide)] at H;simp only [Option.some.injEq,Prod.mk.injEq] at H;obtain ⟨rfl,rfl⟩:=H;go_enter Tryz.func51,Tryz.ntmps51;go_wp2_with (first|(refine bE (N:=2) (cs:= #[.slice A0_0 l0_0.length c0_0]) (t:=26) ?_;intro gb699 hg w11 hbox hb;have BK699:=Aside0.mk (hbox);have GW699:=Aside0.mk ((by rw [hg];exact (Qd (uB HB)):w.heap.size≤gb699));have GE699:=GW699;replace HB:=Aside0.mk (Qc (uB HB) hb);clear hb hbox hg;have hcz12_0:=bC BK699;have hfz12_0:=Qe BK699.out 0)|(refine gA (some 8) Tryz.func158 #[.agg #[.slice A0_0 l0_0.length c0_0], .int .i64 a1] ?_;(with_reducible refine (Qc0.calls k _ _ l0_0 a1 false _ (uD HR0_0 HB) HC0_0.out A3.out).mono ?_);rintro e w13 ⟨rfl,hb⟩;refine ⟨_,rfl,?_⟩;replace BK699:=Aside0.mk (Qb (uK BK699) hb);replace HB:=Aside0.mk (Qc (vB HB) hb);(try clear hb)))
  go_ret2
  exact ⟨_,by first|rfl|(simp [Qf,Qg] <;>rfl)|(simp [*,Qf,Qg] <;>rfl),by first|exact Kd.R_nil _ _ _ _ _|exact Kd.N_nil _ _ _ _ _|exact Kd.V_nil _ _ _ _ _|exact Kd.Q_nil _ _ _ _ _|exact Kd.S_nil _ _ _ _ _,(vB HB)⟩
def Qd7.f (k : Nat) (l0_0 : List Int) (a1 : Int) : Option (Bool) := (Qn.f k l0_0).bind fun t705 => (if t705 = true then ((Qc5.f l0_0 a1).bind fun t706 => (if t706 = true then ((Qbx.f k l0_0 a1).bind fun t707 => (some t707)) else (some false))) else (some false))
theorem Qd7.mono : ∀ a0 a1 k, LeO (Qd7.f k a0 a1) (Qd7.f (k + 1) a0 a1) := by
 intro a0 a1 k;unfold Qd7.f
 repeat' (with_reducible first|apply Qn.mono|apply Qbx.mono|exact LeO.refl _|exact LeO.none _|refine LeO.ite ?_ ?_|refine LeO.bind ?_ (fun _=> ?_))
set_option maxHeartbeats 8000000 in
set_option maxRecDepth 100000 in
theorem Qd7.calls (k : Nat) (A0_0 : Option Addr) (c0_0 : Nat) (l0_0 : List Int) (a1 : Int) (r : Bool) (w : World) (hr0_0 : Kd.C (Kd.int .i64) w A0_0 l0_0.length l0_0) (hc0_0 : l0_0.length ≤ c0_0) (h : Qd7.f k l0_0 a1 = some r) :
 Calls Tryz.prog 174 #[.agg #[.slice A0_0 l0_0.length c0_0], .int .i64 a1] w fun e w'=>e= .returned (.bool r)∧Below w.heap.size w w':=by
 have hu26:=Tryz.underlying26;have HR0_0:=Aside0.mk hr0_0;have HC0_0:=Aside0.mk hc0_0;clear hr0_0 hc0_0;have HB:=Aside0.mk (Below.refl w.heap.size w);have H:((Qn.f k l0_0).bind fun t705=>(if t705=true then ((Qc5.f l0_0 a1).bind fun t706=>(if t706=true then ((Qbx.f k l0_0 a1).bind fun t707=>(some t707)) else (some false))) else (some false)))=some r:=h;clear h;obtain ⟨t705,A3,H⟩:=bs H;(try dsimp only at H)
 by_cases c4:t705=true
 ·
  subst c4;rw [if_pos rfl] at H;obtain ⟨t706,A5,H⟩:=bs H;(try dsimp only at H)
  by_cases c6:t706=true
  ·
   subst c6;rw [if_pos rfl] at H;obtain ⟨t707,A7,H⟩:=bs H;(try dsimp only at H)
   obtain rfl:=Option.some.inj H;go_enter Tryz.func174,Tryz.ntmps174;go_wp2_with (first|(refine bE (N:=2) (cs:= #[.slice A0_0 l0_0.length c0_0]) (t:=26) ?_;intro gb704 hg w8 hbox hb;have BK704:=Aside0.mk (hbox);have GW704:=Aside0.mk ((by rw [hg];exact (Qd (uB HB)):w.heap.size≤gb704));have GE704:=GW704;replace HB:=Aside0.mk (Qc (uB HB) hb);clear hb hbox hg;have hcz9_0:=bC BK704;have hfz9_0:=Qe BK704.out 0)|(refine gA (some 6) Tryz.func183 #[.agg #[.slice A0_0 l0_0.length c0_0]] ?_;(with_reducible refine (Qn.calls k _ _ l0_0 true _ (uD HR0_0 HB) HC0_0.out A3.out).mono ?_);rintro e w10 ⟨rfl,hb⟩;refine ⟨_,rfl,?_⟩;replace BK704:=Aside0.mk (Qb (uK BK704) hb);replace HB:=Aside0.mk (Qc (vB HB) hb);(try clear hb);have hcz11_0:=bC BK704;have hfz11_0:=Qe BK704.out 0)|(go_at_call 199;(with_reducible refine (Qc5.calls _ _ l0_0 a1 true _ (uD HR0_0 HB) HC0_0.out A5.out).mono ?_);rintro e w12 ⟨rfl,hb⟩;replace BK704:=Aside0.mk (Qb (uK BK704) hb);replace HB:=Aside0.mk (Qc (vB HB) hb);(try clear hb);have hcz13_0:=bC BK704;have hfz13_0:=Qe BK704.out 0)|(go_at_call 278;(with_reducible refine (Qbx.calls k _ _ l0_0 a1 t707 _ (uD HR0_0 HB) HC0_0.out A7.out).mono ?_);rintro e w14 ⟨rfl,hb⟩;replace BK704:=Aside0.mk (Qb (uK BK704) hb);replace HB:=Aside0.mk (Qc (vB HB) hb);(try clear hb)))
   go_ret
   exact ⟨by first|rfl|(simp [Qf,Qg] <;>rfl)|(simp [*,Qf,Qg] <;>rfl),(vB HB)⟩
  ·
   replace c6:=Bool.eq_false_iff.mpr c6;subst c6;rw [if_neg (show ¬ (false=true) by decide)] at H;obtain rfl:=Option.some.inj H;go_enter Tryz.func174,Tryz.ntmps174;go_wp2_with (first|(refine bE (N:=2) (cs:= #[.slice A0_0 l0_0.length c0_0]) (t:=26) ?_;intro gb704 hg w15 hbox hb;have BK704:=Aside0.mk (hbox);have GW704:=Aside0.mk ((by rw [hg];exact (Qd (uB HB)):w.heap.size≤gb704));have GE704:=GW704;replace HB:=Aside0.mk (Qc (uB HB) hb);clear hb hbox hg;have hcz16_0:=bC BK704;have hfz16_0:=Qe BK704.out 0)|(refine gA (some 6) Tryz.func183 #[.agg #[.slice A0_0 l0_0.length c0_0]] ?_;(with_reducible refine (Qn.calls k _ _ l0_0 true _ (uD HR0_0 HB) HC0_0.out A3.out).mono ?_);rintro e w17 ⟨rfl,hb⟩;refine ⟨_,rfl,?_⟩;replace BK704:=Aside0.mk (Qb (uK BK704) hb);replace HB:=Aside0.mk (Qc (vB HB) hb);(try clear hb);have hcz18_0:=bC BK704;have hfz18_0:=Qe BK704.out 0)|(go_at_call 199;(with_reducible refine (Qc5.calls _ _ l0_0 a1 false _ (uD HR0_0 HB) HC0_0.out A5.out).mono ?_);rintro e w19 ⟨rfl,hb⟩;replace BK704:=Aside0.mk (Qb (uK BK704) hb);replace HB:=Aside0.mk (Qc (vB HB) hb);(try clear hb)))
   go_ret
   exact ⟨by first|rfl|(simp [Qf,Qg] <;>rfl)|(simp [*,Qf,Qg] <;>rfl),(vB HB)⟩
 ·
  replace c4:=Bool.eq_false_iff.mpr c4;subst c4;rw [if_neg (show ¬ (false=true) by decide)] at H;obtain rfl:=Option.some.inj H;go_enter Tryz.func174,Tryz.ntmps174;go_wp2_with (first|(refine bE (N:=2) (cs:= #[.slice A0_0 l0_0.length c0_0]) (t:=26) ?_;intro gb704 hg w20 hbox hb;have BK704:=Aside0.mk (hbox);have GW704:=Aside0.mk ((by rw [hg];exact (Qd (uB HB)):w.heap.size≤gb704));have GE704:=GW704;replace HB:=Aside0.mk (Qc (uB HB) hb);clear hb hbox hg;have hcz21_0:=bC BK704;have hfz21_0:=Qe BK704.out 0)|(refine gA (some 6) Tryz.func183 #[.agg #[.slice A0_0 l0_0.length c0_0]] ?_;(with_reducible refine (Qn.calls k _ _ l0_0 false _ (uD HR0_0 HB) HC0_0.out A3.out).mono ?_);rintro e w22 ⟨rfl,hb⟩;refine ⟨_,rfl,?_⟩;replace BK704:=Aside0.mk (Qb (uK BK704) hb);replace HB:=Aside0.mk (Qc (vB HB) hb);(try clear hb)))
  go_ret
  exact ⟨by first|rfl|(simp [Qf,Qg] <;>rfl)|(simp [*,Qf,Qg] <;>rfl),(vB HB)⟩
def Qde.f (k : Nat) (l0_0 : List Int) (a1 : Int) : Option (List Int × Bool) := (Qd7.f k l0_0 a1).bind fun t709 => (if t709 = true then ((Qbz.f k l0_0 a1).bind fun t710 => (some (t710, true))) else (some (([] : List Int), false)))
theorem Qde.mono : ∀ a0 a1 k, LeO (Qde.f k a0 a1) (Qde.f (k + 1) a0 a1) := by
 intro a0 a1 k;unfold Qde.f
 repeat' (with_reducible first|apply Qbz.mono|apply Qd7.mono|exact LeO.refl _|exact LeO.none _|refine LeO.ite ?_ ?_|refine LeO.bind ?_ (fun _=> ?_))
set_option maxHeartbeats 8000000 in
set_option maxRecDepth 100000 in
theorem Qde.calls (k : Nat) (A0_0 : Option Addr) (c0_0 : Nat) (l0_0 : List Int) (a1 : Int) (r1 : List Int) (r2 : Bool) (w : World) (hr0_0 : Kd.C (Kd.int .i64) w A0_0 l0_0.length l0_0) (hc0_0 : l0_0.length ≤ c0_0) (h : Qde.f k l0_0 a1 = some (r1, r2)) :
 Calls Tryz.prog 52 #[.agg #[.slice A0_0 l0_0.length c0_0], .int .i64 a1] w fun e w'=> ∃ v0_:Value,e= .returned (.tuple #[v0_, .bool r2])∧Kd.R (Kd.int .i64) 3 w' w.heap.size (fun _=>True) v0_ r1∧Below w.heap.size w w':=by
 have hu26:=Tryz.underlying26;have HR0_0:=Aside0.mk hr0_0;have HC0_0:=Aside0.mk hc0_0;clear hr0_0 hc0_0;have HB:=Aside0.mk (Below.refl w.heap.size w);have H:((Qd7.f k l0_0 a1).bind fun t709=>(if t709=true then ((Qbz.f k l0_0 a1).bind fun t710=>(some (t710,true))) else (some (([] :List Int),false))))=some (r1,r2):=h;clear h;obtain ⟨t709,A3,H⟩:=bs H;(try dsimp only at H)
 by_cases c4:t709=true
 ·
  subst c4;rw [if_pos rfl] at H;obtain ⟨t710,A5,H⟩:=bs H;(try dsimp only at H)
  simp only [Option.some.injEq,Prod.mk.injEq] at H;obtain ⟨rfl,rfl⟩:=H;go_enter Tryz.func52,Tryz.ntmps52;go_wp2_with (first|(refine bE (N:=2) (cs:= #[.slice A0_0 l0_0.length c0_0]) (t:=26) ?_;intro gb708 hg w6 hbox hb;have BK708:=Aside0.mk (hbox);have GW708:=Aside0.mk ((by rw [hg];exact (Qd (uB HB)):w.heap.size≤gb708));have GE708:=GW708;replace HB:=Aside0.mk (Qc (uB HB) hb);clear hb hbox hg;have hcz7_0:=bC BK708;have hfz7_0:=Qe BK708.out 0)|(refine gA (some 8) Tryz.func174 #[.agg #[.slice A0_0 l0_0.length c0_0], .int .i64 a1] ?_;(with_reducible refine (Qd7.calls k _ _ l0_0 a1 true _ (uD HR0_0 HB) HC0_0.out A3.out).mono ?_);rintro e w8 ⟨rfl,hb⟩;refine ⟨_,rfl,?_⟩;replace BK708:=Aside0.mk (Qb (uK BK708) hb);replace HB:=Aside0.mk (Qc (vB HB) hb);(try clear hb);have hcz9_0:=bC BK708;have hfz9_0:=Qe BK708.out 0)|(refine gA (some 12) Tryz.func195 #[.agg #[.slice A0_0 l0_0.length c0_0], .int .i64 a1] ?_;(with_reducible refine (Qbz.calls k _ _ l0_0 a1 t710 _ (uD HR0_0 HB) HC0_0.out A5.out).mono ?_);rintro e w10 ⟨v711,rfl,ho0,hb⟩;refine ⟨_,rfl,?_⟩;have HO712:=Aside0.mk (Kd.R_lower ho0 (Qd (vB HB)));replace BK708:=Aside0.mk (Qb (uK BK708) hb);replace HB:=Aside0.mk (Qc (vB HB) hb);(try clear hb ho0)))
  go_ret2
  exact ⟨_,by first|rfl|(simp [Qf,Qg] <;>rfl)|(simp [*,Qf,Qg] <;>rfl),uR HO712,(vB HB)⟩
 ·
  replace c4:=Bool.eq_false_iff.mpr c4;subst c4;rw [if_neg (show ¬ (false=true) by decide)] at H;simp only [Option.some.injEq,Prod.mk.injEq] at H;obtain ⟨rfl,rfl⟩:=H;go_enter Tryz.func52,Tryz.ntmps52;go_wp2_with (first|(refine bE (N:=2) (cs:= #[.slice A0_0 l0_0.length c0_0]) (t:=26) ?_;intro gb708 hg w11 hbox hb;have BK708:=Aside0.mk (hbox);have GW708:=Aside0.mk ((by rw [hg];exact (Qd (uB HB)):w.heap.size≤gb708));have GE708:=GW708;replace HB:=Aside0.mk (Qc (uB HB) hb);clear hb hbox hg;have hcz12_0:=bC BK708;have hfz12_0:=Qe BK708.out 0)|(refine gA (some 8) Tryz.func174 #[.agg #[.slice A0_0 l0_0.length c0_0], .int .i64 a1] ?_;(with_reducible refine (Qd7.calls k _ _ l0_0 a1 false _ (uD HR0_0 HB) HC0_0.out A3.out).mono ?_);rintro e w13 ⟨rfl,hb⟩;refine ⟨_,rfl,?_⟩;replace BK708:=Aside0.mk (Qb (uK BK708) hb);replace HB:=Aside0.mk (Qc (vB HB) hb);(try clear hb)))
  go_ret2
  exact ⟨_,by first|rfl|(simp [Qf,Qg] <;>rfl)|(simp [*,Qf,Qg] <;>rfl),by first|exact Kd.R_nil _ _ _ _ _|exact Kd.N_nil _ _ _ _ _|exact Kd.V_nil _ _ _ _ _|exact Kd.Q_nil _ _ _ _ _|exact Kd.S_nil _ _ _ _ _,(vB HB)⟩
end Go.Proofs.YtkgngggppcmpfaaGreat.L
end
