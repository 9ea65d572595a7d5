/- Laws about the given program: the law FnOrbitsShareIdeals answers true for every input that its row lets in; no condition is added to the given statement. Contracts of the Go functions that it reaches, and the plain proof over lists. -/
import Derived.Test.YtkgngggppcmpfaaGreatWFnOrbitsShareIdeals0
import Derived.Test.YtkgngggppcmpfaaGreatKFnOrbitsShareIdeals0
import Derived.Test.YtkgngggppcmpfaaGreatKFnOrbitsShareIdeals1
import Derived.Test.YtkgngggppcmpfaaGreatKFnOrbitsShareIdeals2
section
namespace Go.Proofs.YtkgngggppcmpfaaGreat.L
open Go.RowKit Go.Proofs.YtkgngggppcmpfaaGreatW.PrintWords Go.Proofs.YtkgngggppcmpfaaGreatW.PrintLast Go.Proofs.YtkgngggppcmpfaaGreatW.PrintMore Go.Proofs.YtkgngggppcmpfaaGreat.X
attribute [local go_sem] Q2 Q4 Qbd Qbe Qz Q0 Q3 Q5
set_option linter.unusedVariables false
set_option linter.unusedSimpArgs false
mutual
def Qn.l0 : Nat → List Int → Int → Int → List Int → Option (Bool)
 |0,_,_,_,_=>none
 |k+1,x14,x15,x16,x328000=>if x16<x15 then (if 0≤x16 then (if x16<(x14.length:Int) then ((Qct.f (rd x14 x16) 0 (wrap64 ((shl .i64 1 x16) - 1))).bind fun t330=>(if t330=true then (Qn.l1 k x16 (rd x14 x16) 0 x14 x15 x16 x328000) else (some false))) else (none)) else (none)) else (some true)
def Qn.l1 : Nat → Int → Int → Int → List Int → Int → Int → List Int → Option (Bool)
 |0,_,_,_,_,_,_,_=>none
 |k+1,x4,x5,x6,x14,x15,x16,x328000=>if x6<x4 then (if 0≤x6 then (if (Int.tmod (shr .i64 x5 x6) 2)=1 then (if x6<(x328000.length:Int) then (if (Go.bits .andNot .i64 (rd x328000 x6) x5)=0 then (Qn.l1 k x4 x5 (wrap64 (x6+1)) x14 x15 x16 x328000) else (some false)) else (none)) else (Qn.l1 k x4 x5 (wrap64 (x6+1)) x14 x15 x16 x328000)) else (none)) else (Qn.l0 k x14 x15 (wrap64 (x16+1)) x328000)
end
def Qn.f (k : Nat) (l0_0 : List Int) : Option (Bool) := (Qct.f (l0_0.length : Int) 1 10).bind fun t328 => (if t328 = true then (Qn.l0 k l0_0 (l0_0.length : Int) 0 l0_0) else (some false))
theorem Qn.mono_l : ∀ k, (∀ y0 y1 y2 y3, LeO (Qn.l0 k y0 y1 y2 y3) (Qn.l0 (k + 1) y0 y1 y2 y3)) ∧ (∀ y0 y1 y2 y3 y4 y5 y6, LeO (Qn.l1 k y0 y1 y2 y3 y4 y5 y6) (Qn.l1 (k + 1) y0 y1 y2 y3 y4 y5 y6))
 |0=>⟨fun _ _ _ _ r h=>by simp [Qn.l0] at h,fun _ _ _ _ _ _ _ r h=>by simp [Qn.l1] at h⟩
 |k+1=>by
  obtain ⟨ih0,ih1⟩:=Qn.mono_l k;refine ⟨?_,?_⟩
  all_goals
   intros
   first|unfold Qn.l0|unfold Qn.l1
   repeat' (with_reducible first|apply ih0|apply ih1|exact LeO.refl _|exact LeO.none _|refine LeO.ite ?_ ?_|refine LeO.bind ?_ (fun _=> ?_))
theorem Qn.mono : ∀ a0 k, LeO (Qn.f k a0) (Qn.f (k + 1) a0) := by
 intro a0 k;obtain ⟨ih0,ih1⟩:=Qn.mono_l k;unfold Qn.f
 repeat' (with_reducible first|apply ih0|apply ih1|exact LeO.refl _|exact LeO.none _|refine LeO.ite ?_ ?_|refine LeO.bind ?_ (fun _=> ?_))
set_option maxHeartbeats 8000000 in
set_option maxRecDepth 100000 in
theorem Qn.calls (k : Nat) (A0_0 : Option Addr) (c0_0 : Nat) (l0_0 : List Int) (r : Bool) (w : World) (hr0_0 : Kd.C (Kd.int .i64) w A0_0 l0_0.length l0_0) (hc0_0 : l0_0.length ≤ c0_0) (h : Qn.f k l0_0 = some r) :
 Calls Tryz.prog 183 #[.agg #[.slice A0_0 l0_0.length c0_0]] w fun e w'=>e= .returned (.bool r)∧Below w.heap.size w w':=by
 have hu26:=Tryz.underlying26;have HR0_0:=Aside0.mk hr0_0;have HC0_0:=Aside0.mk hc0_0;clear hr0_0 hc0_0;have HB:=Aside0.mk (Below.refl w.heap.size w);have H:((Qct.f (l0_0.length:Int) 1 10).bind fun t328=>(if t328=true then (Qn.l0 k l0_0 (l0_0.length:Int) 0 l0_0) else (some false)))=some r:=h;clear h;obtain ⟨t328,A2,H⟩:=bs H;(try dsimp only at H)
 by_cases c3:t328=true
 ·
  subst c3;rw [if_pos rfl] at H;have H':=Aside0.mk H;clear H;go_enter Tryz.func183,Tryz.ntmps183;go_wp2_with (first|(refine bE (N:=1) (cs:= #[.slice A0_0 l0_0.length c0_0]) (t:=26) ?_;intro gb327 hg w4 hbox hb;have BK327:=Aside0.mk (hbox);have GW327:=Aside0.mk ((by rw [hg];exact (Qd (uB HB)):w.heap.size≤gb327));have GE327:=GW327;replace HB:=Aside0.mk (Qc (uB HB) hb);clear hb hbox hg;have hcz5_0:=bC BK327;have hfz5_0:=Qe BK327.out 0)|(refine gA (some 11) Tryz.func192 #[.int .i64 (l0_0.length:Int), .int .i64 1, .int .i64 10] ?_;(with_reducible refine (Qct.calls (l0_0.length:Int) 1 10 true _ A2.out).mono ?_);rintro e w' ⟨rfl,⟨nd,rfl⟩⟩;refine ⟨_,rfl,?_⟩))
  go_loopg [16] k (fun kq v16 w'=> ∃ (x16_1:Int),v16= .int .i64 x16_1∧Aside0 (Qn.l0 kq l0_0 (l0_0.length:Int) x16_1 l0_0=some r)∧Aside0 (kq≤k)∧Aside0 (w'.heap[gb327]? =some (.cells #[(.slice A0_0 l0_0.length c0_0)] 26 (0,0)))∧Aside0 (Below w.heap.size w w'))
  case atStart=>exact ⟨(0),(by first|rfl|(simp;done)|(simp [*];done)),H',⟨Nat.le_refl _⟩,⟨uK BK327⟩,⟨(vB HB)⟩⟩
  case round=>
   clear H'
   try clear hcz5_0 hfz5_0
   obtain ⟨x16_1,rfl,HA,HK1,BK327,HB⟩:=hrel;cases gk with
   |zero=>exact absurd HA.out (by simp [Qn.l0])
   |succ k1=>
    have H:=HA.out;clear HA;simp only [Qn.l0] at H
    by_cases c6:x16_1<(l0_0.length:Int)
    ·
     rw [if_pos c6] at H;have c6b0:=decide_eq_true c6;clear c6
     by_cases c7:0≤x16_1
     ·
      rw [if_pos c7] at H;have c7b0:=decide_eq_true c7;clear c7
      by_cases c8:x16_1<(l0_0.length:Int)
      ·
       rw [if_pos c8] at H;have c8b0:=decide_eq_true c8;clear c8;have c9b0:=eq_true (of_decide_eq_true (by first|(with_reducible assumption)|assumption):0≤x16_1);obtain ⟨ji10,hji10⟩: ∃ j_:Int,(shl .i64 1 x16_1)=j_:=⟨_,rfl⟩
       replace H:((Qct.f (rd l0_0 x16_1) 0 (wrap64 ((ji10) - 1))).bind fun t330=>(if t330=true then (Qn.l1 k1 x16_1 (rd l0_0 x16_1) 0 l0_0 (l0_0.length:Int) x16_1 l0_0) else (some false)))=some r:=by first|(rw [hji10] at H;exact H)|(simp only [hji10] at H ⊢;exact H)
       have hji10_:(IntKind.i64.wrap (1*2 ^ min x16_1.toNat 64))=ji10:=hji10;have hji10z:x16_1≤64→(IntKind.i64.wrap (1*2 ^ x16_1.toNat))=ji10:=Qd2 hji10;have hji10u:(IntKind.i64.wrap (2 ^ min x16_1.toNat 64))=ji10:=by have h_:=hji10_;rw [Int.one_mul] at h_;exact h_
       have hji10v:x16_1≤64→(IntKind.i64.wrap (2 ^ x16_1.toNat))=ji10:=fun hle_=>by have h_:=hji10z hle_;rw [Int.one_mul] at h_;exact h_
       have hji10y:(wrap64 (1*2 ^ min x16_1.toNat 64))=ji10:=(Qcw _).symm.trans hji10_;have hji10x:x16_1≤64→(wrap64 (1*2 ^ x16_1.toNat))=ji10:=fun h_=>(Qcw _).symm.trans (hji10z h_)
       obtain ⟨t330,A11,H⟩:=bs H;(try dsimp only at H)
       by_cases c12:t330=true
       ·
        subst c12;rw [if_pos rfl] at H;have H':=Aside0.mk H;clear H;have p329:0≤(x16_1:Int):=of_decide_eq_true (by first|(with_reducible assumption)|assumption);have q329:x16_1<(l0_0.length:Int):=of_decide_eq_true (by first|(with_reducible assumption)|assumption);obtain ⟨ad329,e329,hx329_0⟩:=Kd.at_int HR0_0.out x16_1 p329 q329;cases e329;replace hx329_0:=(HB.out.cell (World.block_lt_of_cell? w _ hx329_0)).trans hx329_0;replace p329:=eq_true p329;replace q329:=eq_true q329;go_wp2_with (first|((with_reducible refine Qcf (f:=192) rfl ?_);refine Qdp (some 25) rfl rfl Tryz.func192 (by kernel_rfl) rfl #[.int .i64 (rd l0_0 x16_1), .int .i64 0, .int .i64 (wrap64 ((ji10) - 1))] rfl (by (try simp only [List.map_toArray,List.map_cons,List.map_nil]);first|done|(simp only [hji10];rfl)|rfl|(simp only [List.length_drop,List.length_take];rfl)) ?_;(with_reducible refine (Qct.calls (rd l0_0 x16_1) 0 (wrap64 ((ji10) - 1)) true _ A11.out).mono ?_);rintro e w' ⟨rfl,⟨nd,rfl⟩⟩;refine ⟨_,rfl,?_⟩))
        go_loopg [6] k1 (fun kq v6 w'=> ∃ (x6_2:Int),v6= .int .i64 x6_2∧Aside0 (Qn.l1 kq x16_1 (rd l0_0 x16_1) x6_2 l0_0 (l0_0.length:Int) x16_1 l0_0=some r)∧Aside0 (kq≤k1)∧Aside0 (w'.heap[gb327]? =some (.cells #[(.slice (some ad329) l0_0.length c0_0)] 26 (0,0)))∧Aside0 (Below w.heap.size w w'))
        case atStart=>exact ⟨(0),(by first|rfl|(simp;done)|(simp [*];done)),H',⟨Nat.le_refl _⟩,⟨uK BK327⟩,⟨(vB HB)⟩⟩
        case round=>
         clear H'
         try clear c6b0 c7b0 c8b0 c9b0 hx329_0 p329 q329
         obtain ⟨x6_2,rfl,HA,HK2,BK327,HB⟩:=hrel;cases gk with
         |zero=>exact absurd HA.out (by simp [Qn.l1])
         |succ k2=>
          have H:=HA.out;clear HA;simp only [Qn.l1] at H
          by_cases c13:x6_2<x16_1
          ·
           rw [if_pos c13] at H;have c13b0:=decide_eq_true c13;clear c13
           by_cases c14:0≤x6_2
           ·
            rw [if_pos c14] at H;have c14b0:=eq_true c14;have c14b1:=decide_eq_true c14;clear c14;obtain ⟨ji15,hji15⟩: ∃ j_:Int,(shr .i64 (rd l0_0 x16_1) x6_2)=j_:=⟨_,rfl⟩
            replace H:(if (Int.tmod (ji15) 2)=1 then (if x6_2<(l0_0.length:Int) then (if (Go.bits .andNot .i64 (rd l0_0 x6_2) (rd l0_0 x16_1))=0 then (Qn.l1 k2 x16_1 (rd l0_0 x16_1) (wrap64 (x6_2+1)) l0_0 (l0_0.length:Int) x16_1 l0_0) else (some false)) else (none)) else (Qn.l1 k2 x16_1 (rd l0_0 x16_1) (wrap64 (x6_2+1)) l0_0 (l0_0.length:Int) x16_1 l0_0))=some r:=by first|(rw [hji15] at H;exact H)|(simp only [hji15] at H ⊢;exact H)
            have hji15_:((rd l0_0 x16_1) / 2 ^ min x6_2.toNat 64)=ji15:=hji15;have hji15z:x6_2≤64→((rd l0_0 x16_1) / 2 ^ x6_2.toNat)=ji15:=Qhz hji15
            by_cases c16:(Int.tmod (ji15) 2)=1
            ·
             rw [if_pos c16] at H;have c16b0:((Int.tmod (ji15) 2)==1)=true:=beq_iff_eq.mpr c16;have c16b1:((Int.tmod (ji15) 2) !=1)=false:=bne_eq_false_iff_eq.mpr c16;clear c16
             by_cases c17:x6_2<(l0_0.length:Int)
             ·
              rw [if_pos c17] at H;have c17b0:=decide_eq_true c17;clear c17
              by_cases c18:(Go.bits .andNot .i64 (rd l0_0 x6_2) (rd l0_0 x16_1))=0
              ·
               rw [if_pos c18] at H;have c18b0:((Go.bits .andNot .i64 (rd l0_0 x6_2) (rd l0_0 x16_1))==0)=true:=beq_iff_eq.mpr c18;have c18b1:((Go.bits .andNot .i64 (rd l0_0 x6_2) (rd l0_0 x16_1)) !=0)=false:=bne_eq_false_iff_eq.mpr c18;clear c18;have H':=Aside0.mk H;clear H;have hcz19_0:=bC BK327;have hfz19_0:=Qe BK327.out 0;have p331:0≤(x6_2:Int):=of_decide_eq_true (by first|(with_reducible assumption)|assumption);have q331:x6_2<(l0_0.length:Int):=of_decide_eq_true (by first|(with_reducible assumption)|assumption);obtain ⟨ad331,e331,hx331_0⟩:=Kd.at_int HR0_0.out x6_2 p331 q331;obtain rfl:ad329=ad331:=(by injection e331)
               replace hx331_0:=(HB.out.cell (World.block_lt_of_cell? w _ hx331_0)).trans hx331_0;replace p331:=eq_true p331;replace q331:=eq_true q331;go_wp2;go_roundg k2
               case measure=>have:=HK1.out;have:=HK2.out;omega
               case rel=>exact ⟨(wrap64 (x6_2+1)),(by first|rfl|(simp;done)|(simp [*];done)),H',⟨by have:=HK1.out;have:=HK2.out;omega⟩,⟨uK BK327⟩,⟨(vB HB)⟩⟩
              ·
               rw [if_neg c18] at H;have c18b0:((Go.bits .andNot .i64 (rd l0_0 x6_2) (rd l0_0 x16_1))==0)=false:=beq_eq_false_iff_ne.mpr c18;have c18b1:((Go.bits .andNot .i64 (rd l0_0 x6_2) (rd l0_0 x16_1)) !=0)=true:=bne_iff_ne.mpr c18;obtain rfl:=Option.some.inj H;have hcz20_0:=bC BK327;have hfz20_0:=Qe BK327.out 0;have p331:0≤(x6_2:Int):=of_decide_eq_true (by first|(with_reducible assumption)|assumption);have q331:x6_2<(l0_0.length:Int):=of_decide_eq_true (by first|(with_reducible assumption)|assumption);obtain ⟨ad331,e331,hx331_0⟩:=Kd.at_int HR0_0.out x6_2 p331 q331;obtain rfl:ad329=ad331:=(by injection e331)
               replace hx331_0:=(HB.out.cell (World.block_lt_of_cell? w _ hx331_0)).trans hx331_0;replace p331:=eq_true p331;replace q331:=eq_true q331;go_wp2
               go_ret
               exact ⟨by first|rfl|(simp [Qf,Qg] <;>rfl)|(simp only [←hji10,←hji15];first|rfl|(simp [Qf,Qg] <;>rfl))|(simp [*,Qf,Qg] <;>rfl),(vB HB)⟩
             ·
              rw [if_neg c17] at H;exact absurd H (by simp)
            ·
             rw [if_neg c16] at H;have c16b0:((Int.tmod (ji15) 2)==1)=false:=beq_eq_false_iff_ne.mpr c16;have c16b1:((Int.tmod (ji15) 2) !=1)=true:=bne_iff_ne.mpr c16;have H':=Aside0.mk H;clear H;go_wp2;go_roundg k2
             case measure=>have:=HK1.out;have:=HK2.out;omega
             case rel=>exact ⟨(wrap64 (x6_2+1)),(by first|rfl|(simp;done)|(simp [*];done)),H',⟨by have:=HK1.out;have:=HK2.out;omega⟩,⟨uK BK327⟩,⟨(vB HB)⟩⟩
           ·
            rw [if_neg c14] at H;exact absurd H (by simp)
          ·
           rw [if_neg c13] at H;have c13b0:=decide_eq_false c13;clear c13;have H':=Aside0.mk H;clear H;go_wp2;go_roundg k2
           case measure=>have:=HK1.out;have:=HK2.out;omega
           case rel=>exact ⟨(wrap64 (x16_1+1)),(by first|rfl|(simp;done)|(simp [*];done)),H',⟨by have:=HK1.out;have:=HK2.out;omega⟩,⟨uK BK327⟩,⟨(vB HB)⟩⟩
       ·
        replace c12:=Bool.eq_false_iff.mpr c12;subst c12;rw [if_neg (show ¬ (false=true) by decide)] at H;obtain rfl:=Option.some.inj H;have p329:0≤(x16_1:Int):=of_decide_eq_true (by first|(with_reducible assumption)|assumption);have q329:x16_1<(l0_0.length:Int):=of_decide_eq_true (by first|(with_reducible assumption)|assumption);obtain ⟨ad329,e329,hx329_0⟩:=Kd.at_int HR0_0.out x16_1 p329 q329;cases e329;replace hx329_0:=(HB.out.cell (World.block_lt_of_cell? w _ hx329_0)).trans hx329_0;replace p329:=eq_true p329;replace q329:=eq_true q329;go_wp2_with (first|((with_reducible refine Qcf (f:=192) rfl ?_);refine Qdp (some 25) rfl rfl Tryz.func192 (by kernel_rfl) rfl #[.int .i64 (rd l0_0 x16_1), .int .i64 0, .int .i64 (wrap64 ((ji10) - 1))] rfl (by (try simp only [List.map_toArray,List.map_cons,List.map_nil]);first|done|(simp only [hji10];rfl)|rfl|(simp only [List.length_drop,List.length_take];rfl)) ?_;(with_reducible refine (Qct.calls (rd l0_0 x16_1) 0 (wrap64 ((ji10) - 1)) false _ A11.out).mono ?_);rintro e w' ⟨rfl,⟨nd,rfl⟩⟩;refine ⟨_,rfl,?_⟩))
        go_ret
        exact ⟨by first|rfl|(simp [Qf,Qg] <;>rfl)|(simp only [←hji10];first|rfl|(simp [Qf,Qg] <;>rfl))|(simp [*,Qf,Qg] <;>rfl),(vB HB)⟩
      ·
       rw [if_neg c8] at H;exact absurd H (by simp)
     ·
      rw [if_neg c7] at H;exact absurd H (by simp)
    ·
     rw [if_neg c6] at H;have c6b0:=decide_eq_false c6;clear c6;obtain rfl:=Option.some.inj H;go_wp2
     go_ret
     exact ⟨by first|rfl|(simp [Qf,Qg] <;>rfl)|(simp [*,Qf,Qg] <;>rfl),(vB HB)⟩
 ·
  replace c3:=Bool.eq_false_iff.mpr c3;subst c3;rw [if_neg (show ¬ (false=true) by decide)] at H;obtain rfl:=Option.some.inj H;go_enter Tryz.func183,Tryz.ntmps183;go_wp2_with (first|(refine bE (N:=1) (cs:= #[.slice A0_0 l0_0.length c0_0]) (t:=26) ?_;intro gb327 hg w21 hbox hb;have BK327:=Aside0.mk (hbox);have GW327:=Aside0.mk ((by rw [hg];exact (Qd (uB HB)):w.heap.size≤gb327));have GE327:=GW327;replace HB:=Aside0.mk (Qc (uB HB) hb);clear hb hbox hg;have hcz22_0:=bC BK327;have hfz22_0:=Qe BK327.out 0)|(refine gA (some 11) Tryz.func192 #[.int .i64 (l0_0.length:Int), .int .i64 1, .int .i64 10] ?_;(with_reducible refine (Qct.calls (l0_0.length:Int) 1 10 false _ A2.out).mono ?_);rintro e w' ⟨rfl,⟨nd,rfl⟩⟩;refine ⟨_,rfl,?_⟩))
  go_ret
  exact ⟨by first|rfl|(simp [Qf,Qg] <;>rfl)|(simp [*,Qf,Qg] <;>rfl),(vB HB)⟩
end Go.Proofs.YtkgngggppcmpfaaGreat.L
end
section
namespace Go.Proofs.YtkgngggppcmpfaaGreat.L
open Go.RowKit Go.Proofs.YtkgngggppcmpfaaGreatW.PrintWords Go.Proofs.YtkgngggppcmpfaaGreatW.PrintLast Go.Proofs.YtkgngggppcmpfaaGreatW.PrintMore
attribute [local go_sem] Q2 Q4 Qbd Qbe Qz Q0 Q3 Q5
set_option linter.unusedVariables false
set_option linter.unusedSimpArgs false
def Qdr.f (a0 : Int) (a1 : Int) : Option (Bool) := if 0 ≤ a1 then (some ((Int.tmod (shr .i64 a0 a1) 2) == 1)) else (none)
set_option maxHeartbeats 8000000 in
set_option maxRecDepth 100000 in
theorem Qdr.calls (a0 : Int) (a1 : Int) (r : Bool) (w : World) (h : Qdr.f a0 a1 = some r) :
 Calls Tryz.prog 253 #[.int .i64 a0, .int .i64 a1] w fun e w'=>e= .returned (.bool r)∧Drawn0 w w':=by
 have H:(if 0≤a1 then (some ((Int.tmod (shr .i64 a0 a1) 2)==1)) else (none))=some r:=h;clear h
 by_cases c3:0≤a1
 ·
  rw [if_pos c3] at H;have c3b0:=eq_true c3;have c3b1:=decide_eq_true c3;clear c3;obtain ⟨ji4,hji4⟩: ∃ j_:Int,(shr .i64 a0 a1)=j_:=⟨_,rfl⟩
  replace H:(some ((Int.tmod (ji4) 2)==1))=some r:=by first|(rw [hji4] at H;exact H)|(simp only [hji4] at H ⊢;exact H)
  have hji4_:(a0 / 2 ^ min a1.toNat 64)=ji4:=hji4;have hji4z:a1≤64→(a0 / 2 ^ a1.toNat)=ji4:=Qhz hji4;obtain rfl:=Option.some.inj H;go_enter Tryz.func253,Tryz.ntmps253;go_wp2
  go_ret
  exact ⟨by first|rfl|(simp;done)|(simp only [←hji4] <;>(first|rfl|simp))|(simp [*];done),by repeat (first|exact Drawn0.refl _|apply Drawn0.step)⟩
 ·
  rw [if_neg c3] at H;exact absurd H (by simp)
end Go.Proofs.YtkgngggppcmpfaaGreat.L
end
section
namespace Go.Proofs.YtkgngggppcmpfaaGreat.L
open Go.RowKit Go.Proofs.YtkgngggppcmpfaaGreatW.PrintWords Go.Proofs.YtkgngggppcmpfaaGreatW.PrintLast Go.Proofs.YtkgngggppcmpfaaGreatW.PrintMore Go.Proofs.YtkgngggppcmpfaaGreat.X
attribute [local go_sem] Q2 Q4 Qbd Qbe Qz Q0 Q3 Q5
set_option linter.unusedVariables false
set_option linter.unusedSimpArgs false
def Qbx.l0 : Nat → Int → List Int → Int → Int → Option (Bool)
 |0,_,_,_,_=>none
 |k+1,x1,x8,x9,x10=>if x10<x9 then (if 0≤x10 then (if x10<(x8.length:Int) then ((Qdr.f x1 x10).bind fun t334=>(if t334=true then (if (Go.bits .andNot .i64 (rd x8 x10) x1)=0 then (Qbx.l0 k x1 x8 x9 (wrap64 (x10+1))) else (some false)) else (Qbx.l0 k x1 x8 x9 (wrap64 (x10+1))))) else (none)) else (none)) else (some true)
def Qbx.f (k : Nat) (l0_0 : List Int) (a1 : Int) : Option (Bool) := Qbx.l0 k a1 l0_0 (l0_0.length : Int) 0
theorem Qbx.mono_l : ∀ k, (∀ y0 y1 y2 y3, LeO (Qbx.l0 k y0 y1 y2 y3) (Qbx.l0 (k + 1) y0 y1 y2 y3))
 |0=>fun _ _ _ _ r h=>by simp [Qbx.l0] at h
 |k+1=>by
  have ih0:=Qbx.mono_l k
  ·
   intro y0 y1 y2 y3;unfold Qbx.l0
   repeat' first
   |(with_reducible exact ih0 _ _ _ _)
   |(with_reducible exact LeO.refl _)
   |(with_reducible exact LeO.none _)
   |(with_reducible refine LeO.ite ?_ ?_)
   |(with_reducible refine LeO.bind ?_ (fun _=> ?_))
   |exact ih0 _ _ _ _
   |exact LeO.none _
   |refine LeO.ite ?_ ?_
   |refine LeO.bind ?_ (fun _=> ?_)
theorem Qbx.mono : ∀ a0 a1 k, LeO (Qbx.f k a0 a1) (Qbx.f (k + 1) a0 a1) := by
 intro a0 a1 k;have ih0:=Qbx.mono_l k;unfold Qbx.f
 repeat' (with_reducible first|apply ih0|exact LeO.refl _|exact LeO.none _|refine LeO.ite ?_ ?_|refine LeO.bind ?_ (fun _=> ?_))
set_option maxHeartbeats 8000000 in
set_option maxRecDepth 100000 in
theorem Qbx.calls (k : Nat) (A0_0 : Option Addr) (c0_0 : Nat) (l0_0 : List Int) (a1 : Int) (r : Bool) (w : World) (hr0_0 : Kd.C (Kd.int .i64) w A0_0 l0_0.length l0_0) (hc0_0 : l0_0.length ≤ c0_0) (h : Qbx.f k l0_0 a1 = some r) :
 Calls Tryz.prog 278 #[.agg #[.slice A0_0 l0_0.length c0_0], .int .i64 a1] w fun e w'=>e= .returned (.bool r)∧Below w.heap.size w w':=by
 have hu26:=Tryz.underlying26;have HR0_0:=Aside0.mk hr0_0;have HC0_0:=Aside0.mk hc0_0;clear hr0_0 hc0_0;have HB:=Aside0.mk (Below.refl w.heap.size w);have H:(Qbx.l0 k a1 l0_0 (l0_0.length:Int) 0)=some r:=h;clear h;have H':=Aside0.mk H;clear H;go_enter Tryz.func278,Tryz.ntmps278;go_wp2_with (first|(refine bE (N:=2) (cs:= #[.slice A0_0 l0_0.length c0_0]) (t:=26) ?_;intro gb332 hg w3 hbox hb;have BK332:=Aside0.mk (hbox);have GW332:=Aside0.mk ((by rw [hg];exact (Qd (uB HB)):w.heap.size≤gb332));have GE332:=GW332;replace HB:=Aside0.mk (Qc (uB HB) hb);clear hb hbox hg;have hcz4_0:=bC BK332;have hfz4_0:=Qe BK332.out 0))
 go_loopg [10] k (fun kq v10 w'=> ∃ (x10_1:Int),v10= .int .i64 x10_1∧Aside0 (Qbx.l0 kq a1 l0_0 (l0_0.length:Int) x10_1=some r)∧Aside0 (kq≤k)∧Aside0 (w'.heap[gb332]? =some (.cells #[(.slice A0_0 l0_0.length c0_0)] 26 (0,0)))∧Aside0 (Below w.heap.size w w'))
 case atStart=>exact ⟨(0),(by first|rfl|(simp;done)|(simp [*];done)),H',⟨Nat.le_refl _⟩,⟨uK BK332⟩,⟨(vB HB)⟩⟩
 case round=>
  clear H'
  try clear hcz4_0 hfz4_0
  obtain ⟨x10_1,rfl,HA,HK1,BK332,HB⟩:=hrel;cases gk with
  |zero=>exact absurd HA.out (by simp [Qbx.l0])
  |succ k1=>
   have H:=HA.out;clear HA;simp only [Qbx.l0] at H
   by_cases c5:x10_1<(l0_0.length:Int)
   ·
    rw [if_pos c5] at H;have c5b0:=decide_eq_true c5;clear c5
    by_cases c6:0≤x10_1
    ·
     rw [if_pos c6] at H;have c6b0:=decide_eq_true c6;clear c6
     by_cases c7:x10_1<(l0_0.length:Int)
     ·
      rw [if_pos c7] at H;have c7b0:=decide_eq_true c7;clear c7;obtain ⟨t334,A8,H⟩:=bs H;(try dsimp only at H)
      by_cases c9:t334=true
      ·
       subst c9;rw [if_pos rfl] at H
       by_cases c10:(Go.bits .andNot .i64 (rd l0_0 x10_1) a1)=0
       ·
        rw [if_pos c10] at H;have c10b0:((Go.bits .andNot .i64 (rd l0_0 x10_1) a1)==0)=true:=beq_iff_eq.mpr c10;have c10b1:((Go.bits .andNot .i64 (rd l0_0 x10_1) a1) !=0)=false:=bne_eq_false_iff_eq.mpr c10;clear c10;have H':=Aside0.mk H;clear H;have p333:0≤(x10_1:Int):=of_decide_eq_true (by first|(with_reducible assumption)|assumption);have q333:x10_1<(l0_0.length:Int):=of_decide_eq_true (by first|(with_reducible assumption)|assumption);obtain ⟨ad333,e333,hx333_0⟩:=Kd.at_int HR0_0.out x10_1 p333 q333;cases e333;replace hx333_0:=(HB.out.cell (World.block_lt_of_cell? w _ hx333_0)).trans hx333_0;replace p333:=eq_true p333;replace q333:=eq_true q333;go_wp2_with (first|(refine gA (some 17) Tryz.func253 #[.int .i64 a1, .int .i64 x10_1] ?_;(with_reducible refine (Qdr.calls a1 x10_1 true _ A8.out).mono ?_);rintro e w' ⟨rfl,⟨nd,rfl⟩⟩;refine ⟨_,rfl,?_⟩));go_roundg k1
        case measure=>have:=HK1.out;omega
        case rel=>exact ⟨(wrap64 (x10_1+1)),(by first|rfl|(simp;done)|(simp [*];done)),H',⟨by have:=HK1.out;omega⟩,⟨uK BK332⟩,⟨(vB HB)⟩⟩
       ·
        rw [if_neg c10] at H;have c10b0:((Go.bits .andNot .i64 (rd l0_0 x10_1) a1)==0)=false:=beq_eq_false_iff_ne.mpr c10;have c10b1:((Go.bits .andNot .i64 (rd l0_0 x10_1) a1) !=0)=true:=bne_iff_ne.mpr c10;obtain rfl:=Option.some.inj H;have p333:0≤(x10_1:Int):=of_decide_eq_true (by first|(with_reducible assumption)|assumption);have q333:x10_1<(l0_0.length:Int):=of_decide_eq_true (by first|(with_reducible assumption)|assumption);obtain ⟨ad333,e333,hx333_0⟩:=Kd.at_int HR0_0.out x10_1 p333 q333;cases e333;replace hx333_0:=(HB.out.cell (World.block_lt_of_cell? w _ hx333_0)).trans hx333_0;replace p333:=eq_true p333;replace q333:=eq_true q333;go_wp2_with (first|(refine gA (some 17) Tryz.func253 #[.int .i64 a1, .int .i64 x10_1] ?_;(with_reducible refine (Qdr.calls a1 x10_1 true _ A8.out).mono ?_);rintro e w' ⟨rfl,⟨nd,rfl⟩⟩;refine ⟨_,rfl,?_⟩))
        go_ret
        exact ⟨by first|rfl|(simp [Qf,Qg] <;>rfl)|(simp [*,Qf,Qg] <;>rfl),(vB HB)⟩
      ·
       replace c9:=Bool.eq_false_iff.mpr c9;subst c9;rw [if_neg (show ¬ (false=true) by decide)] at H;have H':=Aside0.mk H;clear H;have p333:0≤(x10_1:Int):=of_decide_eq_true (by first|(with_reducible assumption)|assumption);have q333:x10_1<(l0_0.length:Int):=of_decide_eq_true (by first|(with_reducible assumption)|assumption);obtain ⟨ad333,e333,hx333_0⟩:=Kd.at_int HR0_0.out x10_1 p333 q333;cases e333;replace hx333_0:=(HB.out.cell (World.block_lt_of_cell? w _ hx333_0)).trans hx333_0;replace p333:=eq_true p333;replace q333:=eq_true q333;go_wp2_with (first|(refine gA (some 17) Tryz.func253 #[.int .i64 a1, .int .i64 x10_1] ?_;(with_reducible refine (Qdr.calls a1 x10_1 false _ A8.out).mono ?_);rintro e w' ⟨rfl,⟨nd,rfl⟩⟩;refine ⟨_,rfl,?_⟩));go_roundg k1
       case measure=>have:=HK1.out;omega
       case rel=>exact ⟨(wrap64 (x10_1+1)),(by first|rfl|(simp;done)|(simp [*];done)),H',⟨by have:=HK1.out;omega⟩,⟨uK BK332⟩,⟨(vB HB)⟩⟩
     ·
      rw [if_neg c7] at H;exact absurd H (by simp)
    ·
     rw [if_neg c6] at H;exact absurd H (by simp)
   ·
    rw [if_neg c5] at H;have c5b0:=decide_eq_false c5;clear c5;obtain rfl:=Option.some.inj H;go_wp2
    go_ret
    exact ⟨by first|rfl|(simp [Qf,Qg] <;>rfl)|(simp [*,Qf,Qg] <;>rfl),(vB HB)⟩
def Qbv.l0 : Nat → List Int → Int → List Int → Option (List Int)
 |0,_,_,_=>none
 |k+1,x3,x4,x336000=>if x4<(shl .i64 1 (x336000.length:Int)) then ((Qbx.f k x336000 x4).bind fun t336=>(if t336=true then (if x3.length<17592186044416 then (Qbv.l0 k (x3++ [x4]) (wrap64 (x4+1)) x336000) else (none)) else (Qbv.l0 k x3 (wrap64 (x4+1)) x336000))) else (some x3)
def Qbv.f (k : Nat) (l0_0 : List Int) : Option (List Int) := Qbv.l0 k ([] : List Int) 0 l0_0
theorem Qbv.mono_l : ∀ k, (∀ y0 y1 y2, LeO (Qbv.l0 k y0 y1 y2) (Qbv.l0 (k + 1) y0 y1 y2))
 |0=>fun _ _ _ r h=>by simp [Qbv.l0] at h
 |k+1=>by
  have ih0:=Qbv.mono_l k
  ·
   intro y0 y1 y2;unfold Qbv.l0
   repeat' first
   |(with_reducible exact ih0 _ _ _)
   |(with_reducible exact Qbx.mono _ _ _)
   |(with_reducible exact LeO.refl _)
   |(with_reducible exact LeO.none _)
   |(with_reducible refine LeO.ite ?_ ?_)
   |(with_reducible refine LeO.bind ?_ (fun _=> ?_))
   |exact ih0 _ _ _
   |exact Qbx.mono _ _ _
   |exact LeO.none _
   |refine LeO.ite ?_ ?_
   |refine LeO.bind ?_ (fun _=> ?_)
theorem Qbv.mono : ∀ a0 k, LeO (Qbv.f k a0) (Qbv.f (k + 1) a0) := by
 intro a0 k;have ih0:=Qbv.mono_l k;unfold Qbv.f
 repeat' (with_reducible first|apply ih0|apply Qbx.mono|exact LeO.refl _|exact LeO.none _|refine LeO.ite ?_ ?_|refine LeO.bind ?_ (fun _=> ?_))
set_option maxHeartbeats 8000000 in
set_option maxRecDepth 100000 in
theorem Qbv.calls (k : Nat) (A0_0 : Option Addr) (c0_0 : Nat) (l0_0 : List Int) (r : List Int) (w : World) (hr0_0 : Kd.C (Kd.int .i64) w A0_0 l0_0.length l0_0) (hc0_0 : l0_0.length ≤ c0_0) (h : Qbv.f k l0_0 = some r) :
 Calls Tryz.prog 171 #[.agg #[.slice A0_0 l0_0.length c0_0]] w fun e w'=> ∃ v0_:Value,e= .returned (v0_)∧Kd.R (Kd.int .i64) 3 w' w.heap.size (fun _=>True) v0_ r∧Below w.heap.size w w':=by
 have hu26:=Tryz.underlying26;have HR0_0:=Aside0.mk hr0_0;have HC0_0:=Aside0.mk hc0_0;clear hr0_0 hc0_0;have HB:=Aside0.mk (Below.refl w.heap.size w);have H:(Qbv.l0 k ([] :List Int) 0 l0_0)=some r:=h;clear h;have H':=Aside0.mk H;clear H;go_enter Tryz.func171,Tryz.ntmps171;go_wp2_with (first|(refine bE (N:=1) (cs:= #[.slice A0_0 l0_0.length c0_0]) (t:=26) ?_;intro gb335 hg w2 hbox hb;have BK335:=Aside0.mk (hbox);have GW335:=Aside0.mk ((by rw [hg];exact (Qd (uB HB)):w.heap.size≤gb335));have GE335:=GW335;replace HB:=Aside0.mk (Qc (uB HB) hb);clear hb hbox hg))
 go_loopg [3,4] k (fun kq v3 v4 w'=> ∃ (x3_1:List Int) (x4_1:Int),v4= .int .i64 x4_1∧Aside0 (Qbv.l0 kq x3_1 x4_1 l0_0=some r)∧Aside0 (kq≤k)∧Aside0 (Kd.R (Kd.int .i64) 3 w' w.heap.size (fun _=>True) v3 x3_1)∧Aside0 (w'.heap[gb335]? =some (.cells #[(.slice A0_0 l0_0.length c0_0)] 26 (0,0)))∧Aside0 (Below w.heap.size w w'))
 case atStart=>exact ⟨(([] :List Int)),(0),(by first|rfl|(simp;done)|(simp [*];done)),H',⟨Nat.le_refl _⟩,⟨by first|exact Kd.R_nil _ _ _ _ _|exact Kd.N_nil _ _ _ _ _|exact Kd.V_nil _ _ _ _ _|exact Kd.Q_nil _ _ _ _ _|exact Kd.S_nil _ _ _ _ _⟩,⟨uK BK335⟩,⟨(vB HB)⟩⟩
 case round=>
  clear H'
  skip
  obtain ⟨x3_1,x4_1,rfl,HA,HK1,HO_3,BK335,HB⟩:=hrel;cases gk with
  |zero=>exact absurd HA.out (by simp [Qbv.l0])
  |succ k1=>
   have H:=HA.out;clear HA;simp only [Qbv.l0] at H;obtain ⟨ji3,hji3⟩: ∃ j_:Int,(shl .i64 1 (l0_0.length:Int))=j_:=⟨_,rfl⟩
   replace H:(if x4_1<(ji3) then ((Qbx.f k1 l0_0 x4_1).bind fun t336=>(if t336=true then (if x3_1.length<17592186044416 then (Qbv.l0 k1 (x3_1++ [x4_1]) (wrap64 (x4_1+1)) l0_0) else (none)) else (Qbv.l0 k1 x3_1 (wrap64 (x4_1+1)) l0_0))) else (some x3_1))=some r:=by first|(rw [hji3] at H;exact H)|(simp only [hji3] at H ⊢;exact H)
   have hji3_:(IntKind.i64.wrap (1*2 ^ min (l0_0.length:Int).toNat 64))=ji3:=hji3;have hji3z:(l0_0.length:Int)≤64→(IntKind.i64.wrap (1*2 ^ (l0_0.length:Int).toNat))=ji3:=Qd2 hji3;have hji3p:(IntKind.i64.wrap (1*2 ^ min l0_0.length 64))=ji3:=hji3_;have hji3q:(l0_0.length:Int)≤64→(IntKind.i64.wrap (1*2 ^ l0_0.length))=ji3:=hji3z;have hji3r:(IntKind.i64.wrap (2 ^ min l0_0.length 64))=ji3:=by have h_:=hji3p;rw [Int.one_mul] at h_;exact h_
   have hji3s:(l0_0.length:Int)≤64→(IntKind.i64.wrap (2 ^ l0_0.length))=ji3:=fun hle_=>by have h_:=hji3q hle_;rw [Int.one_mul] at h_;exact h_
   have hji3u:(IntKind.i64.wrap (2 ^ min (l0_0.length:Int).toNat 64))=ji3:=by have h_:=hji3_;rw [Int.one_mul] at h_;exact h_
   have hji3v:(l0_0.length:Int)≤64→(IntKind.i64.wrap (2 ^ (l0_0.length:Int).toNat))=ji3:=fun hle_=>by have h_:=hji3z hle_;rw [Int.one_mul] at h_;exact h_
   have hji3y:(wrap64 (1*2 ^ min (l0_0.length:Int).toNat 64))=ji3:=(Qcw _).symm.trans hji3_;have hji3x:(l0_0.length:Int)≤64→(wrap64 (1*2 ^ (l0_0.length:Int).toNat))=ji3:=fun h_=>(Qcw _).symm.trans (hji3z h_)
   by_cases c4:x4_1<(ji3)
   ·
    rw [if_pos c4] at H;have c4b0:=decide_eq_true c4;clear c4;obtain ⟨t336,A5,H⟩:=bs H;(try dsimp only at H)
    by_cases c6:t336=true
    ·
     subst c6;rw [if_pos rfl] at H
     by_cases c7:x3_1.length<17592186044416
     ·
      rw [if_pos c7] at H;have LMc7:=Aside0.mk c7;clear c7;obtain ⟨y337,hy337⟩: ∃ y_:List Int,y_=(x3_1++ [x4_1]):=⟨_,rfl⟩
      replace H:(Qbv.l0 k1 y337 (wrap64 (x4_1+1)) l0_0)=some r:=by first|(rw [hy337];with_reducible exact H)|(have H2_:=(Option.bind_some _ _).symm.trans H;rw [hy337];with_reducible exact H2_)|(have H2_:=(Option.bind_some _ _).symm.trans H;with_reducible exact H2_)|with_reducible exact H|(rw [hy337];exact H)|exact H
      have Ny337:=Aside0.mk hy337;clear hy337;have H':=Aside0.mk H;clear H;have hcz8_0:=bC BK335;have hfz8_0:=Qe BK335.out 0;go_wp2_with (first|(refine gA (some 15) Tryz.func278 #[.agg #[.slice A0_0 l0_0.length c0_0], .int .i64 x4_1] ?_;(with_reducible refine (Qbx.calls k1 _ _ l0_0 x4_1 true _ (uD HR0_0 HB) HC0_0.out A5.out).mono ?_);rintro e w9 ⟨rfl,hb⟩;refine ⟨_,rfl,?_⟩;replace HO_3:=Aside0.mk (Kd.R_below (uR HO_3) hb);replace BK335:=Aside0.mk (Qb (uK BK335) hb);replace HB:=Aside0.mk (Qc (vB HB) hb);(try clear hb))|((with_reducible refine Qb5 (b:= .append) (xs:= #[.tmp 16, .tmp 18]) rfl ?_);at_builtin;refine Kd.R_append (Kd.int .i64) (w0:=w) w.heap.size rfl (.tmp 16) (.tmp 18) 24 3 (.int .i64 0) 8 rfl Tryz.underlying24 Qdv rfl (by decide) (by omega) u3 x3_1 x4_1 [.int .i64 x4_1] (fun _=>True) (fun _=>False) rfl rfl ?aP (fun _ hk=>hk.elim) ?aF ?aO ?aB ?aS ?aL ?_;(case aP=>exact rfl);(case aB=>exact (vB HB));(case aF=>exact (fun _ _=>trivial));(case aO=>exact (uR HO_3));(case aS=>exact (Qd (vB HB)));(case aL=>have:=LMc7.out;omega);intro v338 w10 ho hb hg hat;rw [←Ny337.out] at ho;replace BK335:=Aside0.mk (Qdq (uK BK335) hg (Kd.R_ne HO_3.out BK335.out (by decide)));replace HB:=Aside0.mk (hb);have HO339:=Aside0.mk (ho);clear HO_3;clear ho hb hg hat));go_roundg k1
      case measure=>have:=HK1.out;omega
      case rel=>exact ⟨(y337),(wrap64 (x4_1+1)),(by first|rfl|(simp;done)|(simp [*];done)),H',⟨by have:=HK1.out;omega⟩,⟨uR HO339⟩,⟨uK BK335⟩,⟨(vB HB)⟩⟩
     ·
      rw [if_neg c7] at H;exact absurd H (by simp)
    ·
     replace c6:=Bool.eq_false_iff.mpr c6;subst c6;rw [if_neg (show ¬ (false=true) by decide)] at H;have H':=Aside0.mk H;clear H;have hcz11_0:=bC BK335;have hfz11_0:=Qe BK335.out 0;go_wp2_with (first|(refine gA (some 15) Tryz.func278 #[.agg #[.slice A0_0 l0_0.length c0_0], .int .i64 x4_1] ?_;(with_reducible refine (Qbx.calls k1 _ _ l0_0 x4_1 false _ (uD HR0_0 HB) HC0_0.out A5.out).mono ?_);rintro e w12 ⟨rfl,hb⟩;refine ⟨_,rfl,?_⟩;replace HO_3:=Aside0.mk (Kd.R_below (uR HO_3) hb);replace BK335:=Aside0.mk (Qb (uK BK335) hb);replace HB:=Aside0.mk (Qc (vB HB) hb);(try clear hb)));go_roundg k1
     case measure=>have:=HK1.out;omega
     case rel=>exact ⟨(x3_1),(wrap64 (x4_1+1)),(by first|rfl|(simp;done)|(simp [*];done)),H',⟨by have:=HK1.out;omega⟩,⟨uR HO_3⟩,⟨uK BK335⟩,⟨(vB HB)⟩⟩
   ·
    rw [if_neg c4] at H;have c4b0:=decide_eq_false c4;clear c4;obtain rfl:=Option.some.inj H;have hcz13_0:=bC BK335;have hfz13_0:=Qe BK335.out 0;go_wp2
    go_ret
    exact ⟨_,by first|rfl|(simp [Qf,Qg] <;>rfl)|(simp only [←hji3];first|rfl|(simp [Qf,Qg] <;>rfl))|(simp [*,Qf,Qg] <;>rfl),uR HO_3,(vB HB)⟩
def Qby.l0 : Nat → Int → Int → List Int → Int → Int → Option (Int)
 |0,_,_,_,_,_=>none
 |k+1,x1,x5,x10,x11,x12=>if x12<x11 then (if 0≤x12 then (if x12<(x10.length:Int) then ((Qdr.f x1 x12).bind fun t342=>(if t342=true then (Qby.l0 k x1 (Go.bits .or .i64 x5 (rd x10 x12)) x10 x11 (wrap64 (x12+1))) else (Qby.l0 k x1 x5 x10 x11 (wrap64 (x12+1))))) else (none)) else (none)) else (some x5)
def Qby.f (k : Nat) (l0_0 : List Int) (a1 : Int) : Option (Int) := Qby.l0 k a1 a1 l0_0 (l0_0.length : Int) 0
theorem Qby.mono_l : ∀ k, (∀ y0 y1 y2 y3 y4, LeO (Qby.l0 k y0 y1 y2 y3 y4) (Qby.l0 (k + 1) y0 y1 y2 y3 y4))
 |0=>fun _ _ _ _ _ r h=>by simp [Qby.l0] at h
 |k+1=>by
  have ih0:=Qby.mono_l k
  ·
   intro y0 y1 y2 y3 y4;unfold Qby.l0
   repeat' first
   |(with_reducible exact ih0 _ _ _ _ _)
   |(with_reducible exact LeO.refl _)
   |(with_reducible exact LeO.none _)
   |(with_reducible refine LeO.ite ?_ ?_)
   |(with_reducible refine LeO.bind ?_ (fun _=> ?_))
   |exact ih0 _ _ _ _ _
   |exact LeO.none _
   |refine LeO.ite ?_ ?_
   |refine LeO.bind ?_ (fun _=> ?_)
theorem Qby.mono : ∀ a0 a1 k, LeO (Qby.f k a0 a1) (Qby.f (k + 1) a0 a1) := by
 intro a0 a1 k;have ih0:=Qby.mono_l k;unfold Qby.f
 repeat' (with_reducible first|apply ih0|exact LeO.refl _|exact LeO.none _|refine LeO.ite ?_ ?_|refine LeO.bind ?_ (fun _=> ?_))
set_option maxHeartbeats 8000000 in
set_option maxRecDepth 100000 in
theorem Qby.calls (k : Nat) (A0_0 : Option Addr) (c0_0 : Nat) (l0_0 : List Int) (a1 : Int) (r : Int) (w : World) (hr0_0 : Kd.C (Kd.int .i64) w A0_0 l0_0.length l0_0) (hc0_0 : l0_0.length ≤ c0_0) (h : Qby.f k l0_0 a1 = some r) :
 Calls Tryz.prog 298 #[.agg #[.slice A0_0 l0_0.length c0_0], .int .i64 a1] w fun e w'=>e= .returned (.int .i64 r)∧Below w.heap.size w w':=by
 have hu26:=Tryz.underlying26;have HR0_0:=Aside0.mk hr0_0;have HC0_0:=Aside0.mk hc0_0;clear hr0_0 hc0_0;have HB:=Aside0.mk (Below.refl w.heap.size w);have H:(Qby.l0 k a1 a1 l0_0 (l0_0.length:Int) 0)=some r:=h;clear h;have H':=Aside0.mk H;clear H;go_enter Tryz.func298,Tryz.ntmps298;go_wp2_with (first|(refine bE (N:=2) (cs:= #[.slice A0_0 l0_0.length c0_0]) (t:=26) ?_;intro gb340 hg w3 hbox hb;have BK340:=Aside0.mk (hbox);have GW340:=Aside0.mk ((by rw [hg];exact (Qd (uB HB)):w.heap.size≤gb340));have GE340:=GW340;replace HB:=Aside0.mk (Qc (uB HB) hb);clear hb hbox hg;have hcz4_0:=bC BK340;have hfz4_0:=Qe BK340.out 0))
 go_loopg [5,12] k (fun kq v5 v12 w'=> ∃ (x5_1:Int) (x12_1:Int),v5= .int .i64 x5_1∧v12= .int .i64 x12_1∧Aside0 (Qby.l0 kq a1 x5_1 l0_0 (l0_0.length:Int) x12_1=some r)∧Aside0 (kq≤k)∧Aside0 (w'.heap[gb340]? =some (.cells #[(.slice A0_0 l0_0.length c0_0)] 26 (0,0)))∧Aside0 (Below w.heap.size w w'))
 case atStart=>exact ⟨(a1),(0),(by first|rfl|(simp;done)|(simp [*];done)),(by first|rfl|(simp;done)|(simp [*];done)),H',⟨Nat.le_refl _⟩,⟨uK BK340⟩,⟨(vB HB)⟩⟩
 case round=>
  clear H'
  try clear hcz4_0 hfz4_0
  obtain ⟨x5_1,x12_1,rfl,rfl,HA,HK1,BK340,HB⟩:=hrel;cases gk with
  |zero=>exact absurd HA.out (by simp [Qby.l0])
  |succ k1=>
   have H:=HA.out;clear HA;simp only [Qby.l0] at H
   by_cases c5:x12_1<(l0_0.length:Int)
   ·
    rw [if_pos c5] at H;have c5b0:=decide_eq_true c5;clear c5
    by_cases c6:0≤x12_1
    ·
     rw [if_pos c6] at H;have c6b0:=decide_eq_true c6;clear c6
     by_cases c7:x12_1<(l0_0.length:Int)
     ·
      rw [if_pos c7] at H;have c7b0:=decide_eq_true c7;clear c7;obtain ⟨t342,A8,H⟩:=bs H;(try dsimp only at H)
      by_cases c9:t342=true
      ·
       subst c9;rw [if_pos rfl] at H;have H':=Aside0.mk H;clear H;have p341:0≤(x12_1:Int):=of_decide_eq_true (by first|(with_reducible assumption)|assumption);have q341:x12_1<(l0_0.length:Int):=of_decide_eq_true (by first|(with_reducible assumption)|assumption);obtain ⟨ad341,e341,hx341_0⟩:=Kd.at_int HR0_0.out x12_1 p341 q341;cases e341;replace hx341_0:=(HB.out.cell (World.block_lt_of_cell? w _ hx341_0)).trans hx341_0;replace p341:=eq_true p341;replace q341:=eq_true q341;go_wp2_with (first|(refine gA (some 19) Tryz.func253 #[.int .i64 a1, .int .i64 x12_1] ?_;(with_reducible refine (Qdr.calls a1 x12_1 true _ A8.out).mono ?_);rintro e w' ⟨rfl,⟨nd,rfl⟩⟩;refine ⟨_,rfl,?_⟩));go_roundg k1
       case measure=>have:=HK1.out;omega
       case rel=>exact ⟨(Go.bits .or .i64 x5_1 (rd l0_0 x12_1)),(wrap64 (x12_1+1)),(by first|rfl|(simp;done)|(simp [*];done)),(by first|rfl|(simp;done)|(simp [*];done)),H',⟨by have:=HK1.out;omega⟩,⟨uK BK340⟩,⟨(vB HB)⟩⟩
      ·
       replace c9:=Bool.eq_false_iff.mpr c9;subst c9;rw [if_neg (show ¬ (false=true) by decide)] at H;have H':=Aside0.mk H;clear H;have p341:0≤(x12_1:Int):=of_decide_eq_true (by first|(with_reducible assumption)|assumption);have q341:x12_1<(l0_0.length:Int):=of_decide_eq_true (by first|(with_reducible assumption)|assumption);obtain ⟨ad341,e341,hx341_0⟩:=Kd.at_int HR0_0.out x12_1 p341 q341;cases e341;replace hx341_0:=(HB.out.cell (World.block_lt_of_cell? w _ hx341_0)).trans hx341_0;replace p341:=eq_true p341;replace q341:=eq_true q341;go_wp2_with (first|(refine gA (some 19) Tryz.func253 #[.int .i64 a1, .int .i64 x12_1] ?_;(with_reducible refine (Qdr.calls a1 x12_1 false _ A8.out).mono ?_);rintro e w' ⟨rfl,⟨nd,rfl⟩⟩;refine ⟨_,rfl,?_⟩));go_roundg k1
       case measure=>have:=HK1.out;omega
       case rel=>exact ⟨(x5_1),(wrap64 (x12_1+1)),(by first|rfl|(simp;done)|(simp [*];done)),(by first|rfl|(simp;done)|(simp [*];done)),H',⟨by have:=HK1.out;omega⟩,⟨uK BK340⟩,⟨(vB HB)⟩⟩
     ·
      rw [if_neg c7] at H;exact absurd H (by simp)
    ·
     rw [if_neg c6] at H;exact absurd H (by simp)
   ·
    rw [if_neg c5] at H;have c5b0:=decide_eq_false c5;clear c5;obtain rfl:=Option.some.inj H;go_wp2
    go_ret
    exact ⟨by first|rfl|(simp [Qf,Qg] <;>rfl)|(simp [*,Qf,Qg] <;>rfl),(vB HB)⟩
def Qb0.l0 : Nat → Int → Int → List Int → Int → Int → Option (Int)
 |0,_,_,_,_,_=>none
 |k+1,x1,x5,x9,x10,x11=>if x11<x10 then (if 0≤x11 then (if x11<(x9.length:Int) then ((Qdr.f x1 x11).bind fun t345=>(if t345=true then (if (Go.bits .and .i64 (rd x9 x11) x1)=0 then (Qb0.l0 k x1 (Go.bits .or .i64 x5 (shl .i64 1 x11)) x9 x10 (wrap64 (x11+1))) else (Qb0.l0 k x1 x5 x9 x10 (wrap64 (x11+1)))) else (Qb0.l0 k x1 x5 x9 x10 (wrap64 (x11+1))))) else (none)) else (none)) else (some x5)
def Qb0.f (k : Nat) (l0_0 : List Int) (a1 : Int) : Option (Int) := Qb0.l0 k a1 0 l0_0 (l0_0.length : Int) 0
theorem Qb0.mono_l : ∀ k, (∀ y0 y1 y2 y3 y4, LeO (Qb0.l0 k y0 y1 y2 y3 y4) (Qb0.l0 (k + 1) y0 y1 y2 y3 y4))
 |0=>fun _ _ _ _ _ r h=>by simp [Qb0.l0] at h
 |k+1=>by
  have ih0:=Qb0.mono_l k
  ·
   intro y0 y1 y2 y3 y4;unfold Qb0.l0
   repeat' first
   |(with_reducible exact ih0 _ _ _ _ _)
   |(with_reducible exact LeO.refl _)
   |(with_reducible exact LeO.none _)
   |(with_reducible refine LeO.ite ?_ ?_)
   |(with_reducible refine LeO.bind ?_ (fun _=> ?_))
   |exact ih0 _ _ _ _ _
   |exact LeO.none _
   |refine LeO.ite ?_ ?_
   |refine LeO.bind ?_ (fun _=> ?_)
theorem Qb0.mono : ∀ a0 a1 k, LeO (Qb0.f k a0 a1) (Qb0.f (k + 1) a0 a1) := by
 intro a0 a1 k;have ih0:=Qb0.mono_l k;unfold Qb0.f
 repeat' (with_reducible first|apply ih0|exact LeO.refl _|exact LeO.none _|refine LeO.ite ?_ ?_|refine LeO.bind ?_ (fun _=> ?_))
set_option maxHeartbeats 8000000 in
set_option maxRecDepth 100000 in
theorem Qb0.calls (k : Nat) (A0_0 : Option Addr) (c0_0 : Nat) (l0_0 : List Int) (a1 : Int) (r : Int) (w : World) (hr0_0 : Kd.C (Kd.int .i64) w A0_0 l0_0.length l0_0) (hc0_0 : l0_0.length ≤ c0_0) (h : Qb0.f k l0_0 a1 = some r) :
 Calls Tryz.prog 301 #[.agg #[.slice A0_0 l0_0.length c0_0], .int .i64 a1] w fun e w'=>e= .returned (.int .i64 r)∧Below w.heap.size w w':=by
 have hu26:=Tryz.underlying26;have HR0_0:=Aside0.mk hr0_0;have HC0_0:=Aside0.mk hc0_0;clear hr0_0 hc0_0;have HB:=Aside0.mk (Below.refl w.heap.size w);have H:(Qb0.l0 k a1 0 l0_0 (l0_0.length:Int) 0)=some r:=h;clear h;have H':=Aside0.mk H;clear H;go_enter Tryz.func301,Tryz.ntmps301;go_wp2_with (first|(refine bE (N:=2) (cs:= #[.slice A0_0 l0_0.length c0_0]) (t:=26) ?_;intro gb343 hg w3 hbox hb;have BK343:=Aside0.mk (hbox);have GW343:=Aside0.mk ((by rw [hg];exact (Qd (uB HB)):w.heap.size≤gb343));have GE343:=GW343;replace HB:=Aside0.mk (Qc (uB HB) hb);clear hb hbox hg;have hcz4_0:=bC BK343;have hfz4_0:=Qe BK343.out 0))
 go_loopg [5,11] k (fun kq v5 v11 w'=> ∃ (x5_1:Int) (x11_1:Int),v5= .int .i64 x5_1∧v11= .int .i64 x11_1∧Aside0 (Qb0.l0 kq a1 x5_1 l0_0 (l0_0.length:Int) x11_1=some r)∧Aside0 (kq≤k)∧Aside0 (w'.heap[gb343]? =some (.cells #[(.slice A0_0 l0_0.length c0_0)] 26 (0,0)))∧Aside0 (Below w.heap.size w w'))
 case atStart=>exact ⟨(0),(0),(by first|rfl|(simp;done)|(simp [*];done)),(by first|rfl|(simp;done)|(simp [*];done)),H',⟨Nat.le_refl _⟩,⟨uK BK343⟩,⟨(vB HB)⟩⟩
 case round=>
  clear H'
  try clear hcz4_0 hfz4_0
  obtain ⟨x5_1,x11_1,rfl,rfl,HA,HK1,BK343,HB⟩:=hrel;cases gk with
  |zero=>exact absurd HA.out (by simp [Qb0.l0])
  |succ k1=>
   have H:=HA.out;clear HA;simp only [Qb0.l0] at H
   by_cases c5:x11_1<(l0_0.length:Int)
   ·
    rw [if_pos c5] at H;have c5b0:=decide_eq_true c5;clear c5
    by_cases c6:0≤x11_1
    ·
     rw [if_pos c6] at H;have c6b0:=decide_eq_true c6;clear c6
     by_cases c7:x11_1<(l0_0.length:Int)
     ·
      rw [if_pos c7] at H;have c7b0:=decide_eq_true c7;clear c7;obtain ⟨t345,A8,H⟩:=bs H;(try dsimp only at H)
      by_cases c9:t345=true
      ·
       subst c9;rw [if_pos rfl] at H
       by_cases c10:(Go.bits .and .i64 (rd l0_0 x11_1) a1)=0
       ·
        rw [if_pos c10] at H;have c10b0:((Go.bits .and .i64 (rd l0_0 x11_1) a1)==0)=true:=beq_iff_eq.mpr c10;have c10b1:((Go.bits .and .i64 (rd l0_0 x11_1) a1) !=0)=false:=bne_eq_false_iff_eq.mpr c10;clear c10;have c11b0:=eq_true (of_decide_eq_true (by first|(with_reducible assumption)|assumption):0≤x11_1);obtain ⟨ji12,hji12⟩: ∃ j_:Int,(shl .i64 1 x11_1)=j_:=⟨_,rfl⟩
        replace H:(Qb0.l0 k1 a1 (Go.bits .or .i64 x5_1 (ji12)) l0_0 (l0_0.length:Int) (wrap64 (x11_1+1)))=some r:=by first|(rw [hji12] at H;exact H)|(simp only [hji12] at H ⊢;exact H)
        (try rw [hji12] at A8)
        have hji12_:(IntKind.i64.wrap (1*2 ^ min x11_1.toNat 64))=ji12:=hji12;have hji12z:x11_1≤64→(IntKind.i64.wrap (1*2 ^ x11_1.toNat))=ji12:=Qd2 hji12;have hji12u:(IntKind.i64.wrap (2 ^ min x11_1.toNat 64))=ji12:=by have h_:=hji12_;rw [Int.one_mul] at h_;exact h_
        have hji12v:x11_1≤64→(IntKind.i64.wrap (2 ^ x11_1.toNat))=ji12:=fun hle_=>by have h_:=hji12z hle_;rw [Int.one_mul] at h_;exact h_
        have hji12y:(wrap64 (1*2 ^ min x11_1.toNat 64))=ji12:=(Qcw _).symm.trans hji12_;have hji12x:x11_1≤64→(wrap64 (1*2 ^ x11_1.toNat))=ji12:=fun h_=>(Qcw _).symm.trans (hji12z h_)
        have H':=Aside0.mk H;clear H;have p344:0≤(x11_1:Int):=of_decide_eq_true (by first|(with_reducible assumption)|assumption);have q344:x11_1<(l0_0.length:Int):=of_decide_eq_true (by first|(with_reducible assumption)|assumption);obtain ⟨ad344,e344,hx344_0⟩:=Kd.at_int HR0_0.out x11_1 p344 q344;cases e344;replace hx344_0:=(HB.out.cell (World.block_lt_of_cell? w _ hx344_0)).trans hx344_0;replace p344:=eq_true p344;replace q344:=eq_true q344;go_wp2_with (first|(refine gA (some 18) Tryz.func253 #[.int .i64 a1, .int .i64 x11_1] ?_;(with_reducible refine (Qdr.calls a1 x11_1 true _ A8.out).mono ?_);rintro e w' ⟨rfl,⟨nd,rfl⟩⟩;refine ⟨_,rfl,?_⟩));go_roundg k1
        case measure=>have:=HK1.out;omega
        case rel=>exact ⟨(Go.bits .or .i64 x5_1 (ji12)),(wrap64 (x11_1+1)),(by first|rfl|(simp;done)|(simp only [←hji12] <;>(first|rfl|simp))|(simp [*];done)),(by first|rfl|(simp;done)|(simp [*];done)),H',⟨by have:=HK1.out;omega⟩,⟨uK BK343⟩,⟨(vB HB)⟩⟩
       ·
        rw [if_neg c10] at H;have c10b0:((Go.bits .and .i64 (rd l0_0 x11_1) a1)==0)=false:=beq_eq_false_iff_ne.mpr c10;have c10b1:((Go.bits .and .i64 (rd l0_0 x11_1) a1) !=0)=true:=bne_iff_ne.mpr c10;have H':=Aside0.mk H;clear H;have p344:0≤(x11_1:Int):=of_decide_eq_true (by first|(with_reducible assumption)|assumption);have q344:x11_1<(l0_0.length:Int):=of_decide_eq_true (by first|(with_reducible assumption)|assumption);obtain ⟨ad344,e344,hx344_0⟩:=Kd.at_int HR0_0.out x11_1 p344 q344;cases e344;replace hx344_0:=(HB.out.cell (World.block_lt_of_cell? w _ hx344_0)).trans hx344_0;replace p344:=eq_true p344;replace q344:=eq_true q344;go_wp2_with (first|(refine gA (some 18) Tryz.func253 #[.int .i64 a1, .int .i64 x11_1] ?_;(with_reducible refine (Qdr.calls a1 x11_1 true _ A8.out).mono ?_);rintro e w' ⟨rfl,⟨nd,rfl⟩⟩;refine ⟨_,rfl,?_⟩));go_roundg k1
        case measure=>have:=HK1.out;omega
        case rel=>exact ⟨(x5_1),(wrap64 (x11_1+1)),(by first|rfl|(simp;done)|(simp [*];done)),(by first|rfl|(simp;done)|(simp [*];done)),H',⟨by have:=HK1.out;omega⟩,⟨uK BK343⟩,⟨(vB HB)⟩⟩
      ·
       replace c9:=Bool.eq_false_iff.mpr c9;subst c9;rw [if_neg (show ¬ (false=true) by decide)] at H;have H':=Aside0.mk H;clear H;have p344:0≤(x11_1:Int):=of_decide_eq_true (by first|(with_reducible assumption)|assumption);have q344:x11_1<(l0_0.length:Int):=of_decide_eq_true (by first|(with_reducible assumption)|assumption);obtain ⟨ad344,e344,hx344_0⟩:=Kd.at_int HR0_0.out x11_1 p344 q344;cases e344;replace hx344_0:=(HB.out.cell (World.block_lt_of_cell? w _ hx344_0)).trans hx344_0;replace p344:=eq_true p344;replace q344:=eq_true q344;go_wp2_with (first|(refine gA (some 18) Tryz.func253 #[.int .i64 a1, .int .i64 x11_1] ?_;(with_reducible refine (Qdr.calls a1 x11_1 false _ A8.out).mono ?_);rintro e w' ⟨rfl,⟨nd,rfl⟩⟩;refine ⟨_,rfl,?_⟩));go_roundg k1
       case measure=>have:=HK1.out;omega
       case rel=>exact ⟨(x5_1),(wrap64 (x11_1+1)),(by first|rfl|(simp;done)|(simp [*];done)),(by first|rfl|(simp;done)|(simp [*];done)),H',⟨by have:=HK1.out;omega⟩,⟨uK BK343⟩,⟨(vB HB)⟩⟩
     ·
      rw [if_neg c7] at H;exact absurd H (by simp)
    ·
     rw [if_neg c6] at H;exact absurd H (by simp)
   ·
    rw [if_neg c5] at H;have c5b0:=decide_eq_false c5;clear c5;obtain rfl:=Option.some.inj H;go_wp2
    go_ret
    exact ⟨by first|rfl|(simp [Qf,Qg] <;>rfl)|(simp [*,Qf,Qg] <;>rfl),(vB HB)⟩
def Qcm.f (k : Nat) (l0_0 : List Int) (a1 : Int) : Option (Int) := (Qb0.f k l0_0 (Go.bits .andNot .i64 (wrap64 ((shl .i64 1 (l0_0.length : Int)) - 1)) a1)).bind fun t347 => ((Qby.f k l0_0 t347).bind fun t348 => (some t348))
theorem Qcm.mono : ∀ a0 a1 k, LeO (Qcm.f k a0 a1) (Qcm.f (k + 1) a0 a1) := by
 intro a0 a1 k;unfold Qcm.f
 repeat' (with_reducible first|apply Qb0.mono|apply Qby.mono|exact LeO.refl _|exact LeO.none _|refine LeO.ite ?_ ?_|refine LeO.bind ?_ (fun _=> ?_))
def Qcm.T2 : Bool × List (List Nat × List Nat) := (true, [([], []), ([], []), ([], []), ([], []), ([2, 3], [2, 3]), ([1, 4], [1, 4]), ([0, 5, 5], [0, 5]), ([6, 6, 0, 1, 2, 3, 4, 5, 6], [6])])
def Qcm.B2 : List Nat := [0, 0, 0, 0, 12, 30, 63, 127]
theorem Qcm.tab2 : rtab .any (Qh6 Tryz.f299 2) = Qcm.T2 := by kernel_rfl
theorem Qcm.bits2 : Qer Qcm.T2.2 Qcm.B2 = true := by kernel_rfl
set_option maxHeartbeats 8000000 in
set_option maxRecDepth 100000 in
theorem Qcm.calls (k : Nat) (A0_0 : Option Addr) (c0_0 : Nat) (l0_0 : List Int) (a1 : Int) (r : Int) (w : World) (hr0_0 : Kd.C (Kd.int .i64) w A0_0 l0_0.length l0_0) (hc0_0 : l0_0.length ≤ c0_0) (h : Qcm.f k l0_0 a1 = some r) :
 Calls Tryz.prog 299 #[.agg #[.slice A0_0 l0_0.length c0_0], .int .i64 a1] w fun e w'=>e= .returned (.int .i64 r)∧Below w.heap.size w w':=by
 have hu26:=Tryz.underlying26;have HR0_0:=Aside0.mk hr0_0;have HC0_0:=Aside0.mk hc0_0;clear hr0_0 hc0_0;have HB:=Aside0.mk (Below.refl w.heap.size w);have H:((Qb0.f k l0_0 (Go.bits .andNot .i64 (wrap64 ((shl .i64 1 (l0_0.length:Int)) - 1)) a1)).bind fun t347=>((Qby.f k l0_0 t347).bind fun t348=>(some t348)))=some r:=h;clear h;obtain ⟨ji3,hji3⟩: ∃ j_:Int,(shl .i64 1 (l0_0.length:Int))=j_:=⟨_,rfl⟩
 replace H:((Qb0.f k l0_0 (Go.bits .andNot .i64 (wrap64 ((ji3) - 1)) a1)).bind fun t347=>((Qby.f k l0_0 t347).bind fun t348=>(some t348)))=some r:=by first|(rw [hji3] at H;exact H)|(simp only [hji3] at H ⊢;exact H)
 have hji3_:(IntKind.i64.wrap (1*2 ^ min (l0_0.length:Int).toNat 64))=ji3:=hji3;have hji3z:(l0_0.length:Int)≤64→(IntKind.i64.wrap (1*2 ^ (l0_0.length:Int).toNat))=ji3:=Qd2 hji3;have hji3p:(IntKind.i64.wrap (1*2 ^ min l0_0.length 64))=ji3:=hji3_;have hji3q:(l0_0.length:Int)≤64→(IntKind.i64.wrap (1*2 ^ l0_0.length))=ji3:=hji3z;have hji3r:(IntKind.i64.wrap (2 ^ min l0_0.length 64))=ji3:=by have h_:=hji3p;rw [Int.one_mul] at h_;exact h_
 have hji3s:(l0_0.length:Int)≤64→(IntKind.i64.wrap (2 ^ l0_0.length))=ji3:=fun hle_=>by have h_:=hji3q hle_;rw [Int.one_mul] at h_;exact h_
 have hji3u:(IntKind.i64.wrap (2 ^ min (l0_0.length:Int).toNat 64))=ji3:=by have h_:=hji3_;rw [Int.one_mul] at h_;exact h_
 have hji3v:(l0_0.length:Int)≤64→(IntKind.i64.wrap (2 ^ (l0_0.length:Int).toNat))=ji3:=fun hle_=>by have h_:=hji3z hle_;rw [Int.one_mul] at h_;exact h_
 have hji3y:(wrap64 (1*2 ^ min (l0_0.length:Int).toNat 64))=ji3:=(Qcw _).symm.trans hji3_;have hji3x:(l0_0.length:Int)≤64→(wrap64 (1*2 ^ (l0_0.length:Int).toNat))=ji3:=fun h_=>(Qcw _).symm.trans (hji3z h_)
 obtain ⟨t347,A4,H⟩:=bs H;(try dsimp only at H)
 obtain ⟨t348,A5,H⟩:=bs H;(try dsimp only at H)
 obtain rfl:=Option.some.inj H;go_enter Tryz.func299,Tryz.ntmps299
 try go_wp2_with (first|(refine bE (N:=2) (cs:= #[.slice A0_0 l0_0.length c0_0]) (t:=26) ?_;intro gb346 hg w6 hbox hb;have BK346:=Aside0.mk (hbox);have GW346:=Aside0.mk ((by rw [hg];exact (Qd (uB HB)):w.heap.size≤gb346));have GE346:=GW346;replace HB:=Aside0.mk (Qc (uB HB) hb);clear hb hbox hg;have hcz7_0:=bC BK346;have hfz7_0:=Qe BK346.out 0))
 replace BK346:=Aside0.mk (Qs BK346.out);replace HB:=Aside0.mk (Qm HB.out);refine sU (n:=8) (S:=fun w'=>w'.cell? ⟨gb346,0,none⟩=some (.slice A0_0 l0_0.length c0_0)) (ds:= []) ((Qb6 BK346.out 0).trans rfl) (fun hHeld=> ?_);refine Qfe Qcm.tab2 Qcm.bits2 (fun HT_ HW_=> ?_);generalize w6.drew=w8 at BK346 HB hHeld ⊢;refine pU 2 13 ?_;refine pU 3 14 ?_;refine pU 4 15 ?_;refine tU 0 11 hHeld ?_;refine tU 1 12 hHeld ?_;refine oU 5 (some 16) fun K hK=> ?_
 refine Qfv Tryz.func301 (by kernel_rfl) rfl #[.agg #[.slice A0_0 l0_0.length c0_0], .int .i64 (Go.bits .andNot .i64 (wrap64 ((ji3) - 1)) a1)] (by rfl) rfl rfl (by (try simp only [List.map_toArray,List.map_cons,List.map_nil]);first|done|(simp only [hji3];rfl)|rfl|(simp only [List.length_drop,List.length_take];rfl)) ?_
 with_reducible refine (Qb0.calls k _ _ l0_0 (Go.bits .andNot .i64 (wrap64 ((ji3) - 1)) a1) t347 _ ?side1 ?side2 A4.out).mono ?_
 (case side1=>repeat (first|exact (Kd.C_below HR0_0.out HB.out)|(with_reducible refine Kd.C_alloc ?_ _)|(with_reducible refine Kd.C_drewN ?_ _)|(with_reducible refine Kd.C_drew ?_)))
 (case side2=>exact HC0_0.out)
 rintro e w9 ⟨rfl,hb⟩;refine ⟨_,rfl,?_⟩;replace BK346:=Aside0.mk (Qb (uK BK346) hb);replace HB:=Aside0.mk (Qc (vB HB) hb)
 skip
 skip
 skip
 skip
 refine hK.out _ _ ((Qb6 BK346.out 0).trans rfl) (fun hHeld=> ?_);clear hK K;refine nU 16 ?_;refine oU 6 (some 17) fun K hK=> ?_
 refine Qfv Tryz.func298 (by kernel_rfl) rfl #[.agg #[.slice A0_0 l0_0.length c0_0], .int .i64 t347] (by rfl) rfl rfl (by (try simp only [List.map_toArray,List.map_cons,List.map_nil]);first|done|rfl|(simp only [List.length_drop,List.length_take];rfl)) ?_
 with_reducible refine (Qby.calls k _ _ l0_0 t347 t348 _ ?side1 ?side2 A5.out).mono ?_
 (case side1=>repeat (first|exact (Kd.C_below HR0_0.out HB.out)|(with_reducible refine Kd.C_alloc ?_ _)|(with_reducible refine Kd.C_drewN ?_ _)|(with_reducible refine Kd.C_drew ?_)))
 (case side2=>exact HC0_0.out)
 rintro e w10 ⟨rfl,hb⟩;refine ⟨_,rfl,?_⟩;replace BK346:=Aside0.mk (Qb (uK BK346) hb);replace HB:=Aside0.mk (Qc (vB HB) hb)
 skip
 skip
 skip
 skip
 refine hK.out _ _ ((Qb6 BK346.out 0).trans rfl) (fun hHeld=> ?_);clear hK K;refine nU 17 ?_;refine pU 7 4 ?_;refine dU ?_
 try go_wp2
 go_ret
 exact ⟨by first|rfl|(simp [Qf,Qg] <;>rfl)|(simp only [←hji3];first|rfl|(simp [Qf,Qg] <;>rfl))|(simp [*,Qf,Qg] <;>rfl),(vB HB)⟩
def Qbz.l0 : Nat → Int → List Int → Int → List Int → Option (List Int)
 |0,_,_,_,_=>none
 |k+1,x1,x5,x6,x350000=>if x6=x1 then (some x5) else (if x5.length<17592186044416 then ((Qcm.f k x350000 x6).bind fun t357=>(Qbz.l0 k x1 (x5++ [x6]) t357 x350000)) else (none))
def Qbz.f (k : Nat) (l0_0 : List Int) (a1 : Int) : Option (List Int) := (Qcm.f k l0_0 a1).bind fun t353 => (Qbz.l0 k a1 (([a1] : List Int)) t353 l0_0)
theorem Qbz.mono_l : ∀ k, (∀ y0 y1 y2 y3, LeO (Qbz.l0 k y0 y1 y2 y3) (Qbz.l0 (k + 1) y0 y1 y2 y3))
 |0=>fun _ _ _ _ r h=>by simp [Qbz.l0] at h
 |k+1=>by
  have ih0:=Qbz.mono_l k
  ·
   intro y0 y1 y2 y3;unfold Qbz.l0
   repeat' first
   |(with_reducible exact ih0 _ _ _ _)
   |(with_reducible exact Qcm.mono _ _ _)
   |(with_reducible exact LeO.refl _)
   |(with_reducible exact LeO.none _)
   |(with_reducible refine LeO.ite ?_ ?_)
   |(with_reducible refine LeO.bind ?_ (fun _=> ?_))
   |exact ih0 _ _ _ _
   |exact Qcm.mono _ _ _
   |exact LeO.none _
   |refine LeO.ite ?_ ?_
   |refine LeO.bind ?_ (fun _=> ?_)
theorem Qbz.mono : ∀ a0 a1 k, LeO (Qbz.f k a0 a1) (Qbz.f (k + 1) a0 a1) := by
 intro a0 a1 k;have ih0:=Qbz.mono_l k;unfold Qbz.f
 repeat' (with_reducible first|apply ih0|apply Qcm.mono|exact LeO.refl _|exact LeO.none _|refine LeO.ite ?_ ?_|refine LeO.bind ?_ (fun _=> ?_))
set_option maxHeartbeats 8000000 in
set_option maxRecDepth 100000 in
theorem Qbz.calls (k : Nat) (A0_0 : Option Addr) (c0_0 : Nat) (l0_0 : List Int) (a1 : Int) (r : List Int) (w : World) (hr0_0 : Kd.C (Kd.int .i64) w A0_0 l0_0.length l0_0) (hc0_0 : l0_0.length ≤ c0_0) (h : Qbz.f k l0_0 a1 = some r) :
 Calls Tryz.prog 195 #[.agg #[.slice A0_0 l0_0.length c0_0], .int .i64 a1] w fun e w'=> ∃ v0_:Value,e= .returned (v0_)∧Kd.R (Kd.int .i64) 3 w' w.heap.size (fun _=>True) v0_ r∧Below w.heap.size w w':=by
 have hu26:=Tryz.underlying26;have HR0_0:=Aside0.mk hr0_0;have HC0_0:=Aside0.mk hc0_0;clear hr0_0 hc0_0;have HB:=Aside0.mk (Below.refl w.heap.size w);have H:((Qcm.f k l0_0 a1).bind fun t353=>(Qbz.l0 k a1 (([a1] :List Int)) t353 l0_0))=some r:=h;clear h;obtain ⟨y350,hy350⟩: ∃ y_:List Int,y_=(([a1] :List Int)):=⟨_,rfl⟩
 replace H:((Qcm.f k l0_0 a1).bind fun t353=>(Qbz.l0 k a1 y350 t353 l0_0))=some r:=by first|(rw [hy350];with_reducible exact H)|(have H2_:=(Option.bind_some _ _).symm.trans H;rw [hy350];with_reducible exact H2_)|(have H2_:=(Option.bind_some _ _).symm.trans H;with_reducible exact H2_)|with_reducible exact H|(rw [hy350];exact H)|exact H
 have Ny350:=Aside0.mk hy350;clear hy350;obtain ⟨t353,A3,H⟩:=bs H;(try dsimp only at H)
 have H':=Aside0.mk H;clear H;go_enter Tryz.func195,Tryz.ntmps195;go_wp2_with (first|(refine bE (N:=2) (cs:= #[.slice A0_0 l0_0.length c0_0]) (t:=26) ?_;intro gb349 hg w4 hbox hb;have BK349:=Aside0.mk (hbox);have GW349:=Aside0.mk ((by rw [hg];exact (Qd (uB HB)):w.heap.size≤gb349));have GE349:=GW349;replace HB:=Aside0.mk (Qc (uB HB) hb);clear hb hbox hg)|((with_reducible refine Qbl (N:=8) rfl ?_);refine Kd.R_lit (Kd.int .i64) _ 3 ?hg (N:=8) ?hd (xs:=([a1] :List Int)) (inner:= [.int .i64 a1]) (ok:=fun _=>True) (okp:=fun _=>True) ?hr ?hp (fun _ hk=>hk) trivial (Below.refl _ _) (Nat.le_refl _) (by simp) ?_;(case hd=>rfl);(case hg=>rfl);(case hr=>first|(go_simp;done)|(go_simp;rfl));(case hp=>exact (Reps.one (show Kd.M (Kd.int .i64) _ _ _ a1 [.int .i64 a1] from rfl) (Reps.none _ _)));intro v351 w5 ho6 hb hg_ hnew_;clear hg_ hnew_;(first|rw [←Ny350.out] at ho6|(simp only [Int.reduceToNat] at ho6;rw [←Ny350.out] at ho6));have HO352:=Aside0.mk (Kd.R_lower ho6 (Qd (vB HB)));replace BK349:=Aside0.mk (Qb (uK BK349) hb);replace HB:=Aside0.mk (Qc (vB HB) hb);clear hb ho6;have hcz7_0:=bC BK349;have hfz7_0:=Qe BK349.out 0)|(refine gA (some 11) Tryz.func299 #[.agg #[.slice A0_0 l0_0.length c0_0], .int .i64 a1] ?_;(with_reducible refine (Qcm.calls k _ _ l0_0 a1 t353 _ (uD HR0_0 HB) HC0_0.out A3.out).mono ?_);rintro e w8 ⟨rfl,hb⟩;refine ⟨_,rfl,?_⟩;replace HO352:=Aside0.mk (Kd.R_below (uR HO352) hb);replace BK349:=Aside0.mk (Qb (uK BK349) hb);replace HB:=Aside0.mk (Qc (vB HB) hb);(try clear hb)))
 go_loopg [5,6] k (fun kq v5 v6 w'=> ∃ (x5_1:List Int) (x6_1:Int),v6= .int .i64 x6_1∧Aside0 (Qbz.l0 kq a1 x5_1 x6_1 l0_0=some r)∧Aside0 (kq≤k)∧Aside0 (Kd.R (Kd.int .i64) 3 w' w.heap.size (fun _=>True) v5 x5_1)∧Aside0 (w'.heap[gb349]? =some (.cells #[(.slice A0_0 l0_0.length c0_0)] 26 (0,0)))∧Aside0 (Below w.heap.size w w'))
 case atStart=>exact ⟨(y350),(t353),(by first|rfl|(simp;done)|(simp [*];done)),H',⟨Nat.le_refl _⟩,⟨uR HO352⟩,⟨uK BK349⟩,⟨(vB HB)⟩⟩
 case round=>
  clear H'
  try clear hcz7_0 hfz7_0
  obtain ⟨x5_1,x6_1,rfl,HA,HK1,HO_5,BK349,HB⟩:=hrel;cases gk with
  |zero=>exact absurd HA.out (by simp [Qbz.l0])
  |succ k1=>
   have H:=HA.out;clear HA;simp only [Qbz.l0] at H
   by_cases c9:x6_1=a1
   ·
    rw [if_pos c9] at H;have c9b0:(x6_1==a1)=true:=beq_iff_eq.mpr c9;have c9b1:(x6_1 !=a1)=false:=bne_eq_false_iff_eq.mpr c9;clear c9;obtain rfl:=Option.some.inj H;go_wp2
    go_ret
    exact ⟨_,by first|rfl|(simp [Qf,Qg] <;>rfl)|(simp [*,Qf,Qg] <;>rfl),uR HO_5,(vB HB)⟩
   ·
    rw [if_neg c9] at H;have c9b0:(x6_1==a1)=false:=beq_eq_false_iff_ne.mpr c9;have c9b1:(x6_1 !=a1)=true:=bne_iff_ne.mpr c9
    by_cases c10:x5_1.length<17592186044416
    ·
     rw [if_pos c10] at H;have LMc10:=Aside0.mk c10;clear c10;obtain ⟨y354,hy354⟩: ∃ y_:List Int,y_=(x5_1++ [x6_1]):=⟨_,rfl⟩
     replace H:((Qcm.f k1 l0_0 x6_1).bind fun t357=>(Qbz.l0 k1 a1 y354 t357 l0_0))=some r:=by first|(rw [hy354];with_reducible exact H)|(have H2_:=(Option.bind_some _ _).symm.trans H;rw [hy354];with_reducible exact H2_)|(have H2_:=(Option.bind_some _ _).symm.trans H;with_reducible exact H2_)|with_reducible exact H|(rw [hy354];exact H)|exact H
     have Ny354:=Aside0.mk hy354;clear hy354;obtain ⟨t357,A11,H⟩:=bs H;(try dsimp only at H)
     have H':=Aside0.mk H;clear H;go_wp2_with (first|((with_reducible refine Qb5 (b:= .append) (xs:= #[.tmp 18, .tmp 20]) rfl ?_);at_builtin;refine Kd.R_append (Kd.int .i64) (w0:=w) w.heap.size rfl (.tmp 18) (.tmp 20) 24 3 (.int .i64 0) 8 rfl Tryz.underlying24 Qdv rfl (by decide) (by omega) u5 x5_1 x6_1 [.int .i64 x6_1] (fun _=>True) (fun _=>False) rfl rfl ?aP (fun _ hk=>hk.elim) ?aF ?aO ?aB ?aS ?aL ?_;(case aP=>exact rfl);(case aB=>exact (vB HB));(case aF=>exact (fun _ _=>trivial));(case aO=>exact (uR HO_5));(case aS=>exact (Qd (vB HB)));(case aL=>have:=LMc10.out;omega);intro v355 w12 ho hb hg hat;rw [←Ny354.out] at ho;replace BK349:=Aside0.mk (Qdq (uK BK349) hg (Kd.R_ne HO_5.out BK349.out (by decide)));replace HB:=Aside0.mk (hb);have HO356:=Aside0.mk (ho);clear HO_5;clear ho hb hg hat;have hcz13_0:=bC BK349;have hfz13_0:=Qe BK349.out 0)|(refine gA (some 17) Tryz.func299 #[.agg #[.slice A0_0 l0_0.length c0_0], .int .i64 x6_1] ?_;(with_reducible refine (Qcm.calls k1 _ _ l0_0 x6_1 t357 _ (uD HR0_0 HB) HC0_0.out A11.out).mono ?_);rintro e w14 ⟨rfl,hb⟩;refine ⟨_,rfl,?_⟩;replace HO356:=Aside0.mk (Kd.R_below (uR HO356) hb);replace BK349:=Aside0.mk (Qb (uK BK349) hb);replace HB:=Aside0.mk (Qc (vB HB) hb);(try clear hb)));go_roundg k1
     case measure=>have:=HK1.out;omega
     case rel=>exact ⟨(y354),(t357),(by first|rfl|(simp;done)|(simp [*];done)),H',⟨by have:=HK1.out;omega⟩,⟨uR HO356⟩,⟨uK BK349⟩,⟨(vB HB)⟩⟩
    ·
     rw [if_neg c10] at H;exact absurd H (by simp)
mutual
def Qbj.l0 : Nat → List Bool → List (List Int) → List Int → Int → Int → List Int → Option ((List (List Int)))
 |0,_,_,_,_,_,_=>none
 |k+1,x3,x4,x16,x17,x18,x359000=>if x18<x17 then (if 0≤x18 then (if x18<(x16.length:Int) then (if 0≤(rd x16 x18) then (if (rd x16 x18)<(x3.length:Int) then (if rdOf false x3 (rd x16 x18)=true then (Qbj.l0 k x3 x4 x16 x17 (wrap64 (x18+1)) x359000) else ((Qbz.f k x359000 (rd x16 x18)).bind fun t367=>(Qbj.l1 k x3 x4 t367 x16 x17 x18 t367 (t367.length:Int) 0 x359000))) else (none)) else (none)) else (none)) else (none)) else (some x4)
def Qbj.l1 : Nat → List Bool → List (List Int) → List Int → List Int → Int → Int → List Int → Int → Int → List Int → Option ((List (List Int)))
 |0,_,_,_,_,_,_,_,_,_,_=>none
 |k+1,x3,x4,x7,x16,x17,x18,x29,x30,x31,x359000=>if x31<x30 then (if 0≤x31 then (if x31<(x29.length:Int) then (if 0≤(rd x29 x31) then (if (rd x29 x31)<(x3.length:Int) then (Qbj.l1 k (x3.set ((rd x29 x31):Int).toNat true) x4 x7 x16 x17 x18 x29 x30 (wrap64 (x31+1)) x359000) else (none)) else (none)) else (none)) else (none)) else (if x4.length<5864062014805 then (Qbj.l0 k x3 (x4++ [x7]) x16 x17 (wrap64 (x18+1)) x359000) else (none))
end
def Qbj.f (k : Nat) (l0_0 : List Int) : Option ((List (List Int))) := if 0 ≤ (shl .i64 1 (l0_0.length : Int)) then (if (shl .i64 1 (l0_0.length : Int) : Int).toNat ≤ 281474976710656 then ((Qbv.f k l0_0).bind fun t362 => (Qbj.l0 k (List.replicate (shl .i64 1 (l0_0.length : Int) : Int).toNat false) ([] : List (List Int)) t362 (t362.length : Int) 0 l0_0)) else (none)) else (none)
theorem Qbj.mono_l : ∀ k, (∀ y0 y1 y2 y3 y4 y5, LeO (Qbj.l0 k y0 y1 y2 y3 y4 y5) (Qbj.l0 (k + 1) y0 y1 y2 y3 y4 y5)) ∧ (∀ y0 y1 y2 y3 y4 y5 y6 y7 y8 y9, LeO (Qbj.l1 k y0 y1 y2 y3 y4 y5 y6 y7 y8 y9) (Qbj.l1 (k + 1) y0 y1 y2 y3 y4 y5 y6 y7 y8 y9))
 |0=>⟨fun _ _ _ _ _ _ r h=>by simp [Qbj.l0] at h,fun _ _ _ _ _ _ _ _ _ _ r h=>by simp [Qbj.l1] at h⟩
 |k+1=>by
  obtain ⟨ih0,ih1⟩:=Qbj.mono_l k;refine ⟨?_,?_⟩
  all_goals
   intros
   first|unfold Qbj.l0|unfold Qbj.l1
   repeat' (with_reducible first|apply ih0|apply ih1|apply Qbz.mono|apply Qbv.mono|exact LeO.refl _|exact LeO.none _|refine LeO.ite ?_ ?_|refine LeO.bind ?_ (fun _=> ?_))
theorem Qbj.mono : ∀ a0 k, LeO (Qbj.f k a0) (Qbj.f (k + 1) a0) := by
 intro a0 k;obtain ⟨ih0,ih1⟩:=Qbj.mono_l k;unfold Qbj.f
 repeat' (with_reducible first|apply ih0|apply ih1|apply Qbz.mono|apply Qbv.mono|exact LeO.refl _|exact LeO.none _|refine LeO.ite ?_ ?_|refine LeO.bind ?_ (fun _=> ?_))
set_option maxHeartbeats 8000000 in
set_option maxRecDepth 100000 in
theorem Qbj.calls (k : Nat) (A0_0 : Option Addr) (c0_0 : Nat) (l0_0 : List Int) (r : List (List Int)) (w : World) (hr0_0 : Kd.C (Kd.int .i64) w A0_0 l0_0.length l0_0) (hc0_0 : l0_0.length ≤ c0_0) (h : Qbj.f k l0_0 = some r) :
 Calls Tryz.prog 184 #[.agg #[.slice A0_0 l0_0.length c0_0]] w fun e w'=> ∃ v0_:Value,e= .returned (v0_)∧Kd.S (Kd.slice 3 (Kd.int .i64)) 24 w' w.heap.size (fun _=>True) v0_ r∧Below w.heap.size w w':=by
 have hu26:=Tryz.underlying26;have HR0_0:=Aside0.mk hr0_0;have HC0_0:=Aside0.mk hc0_0;clear hr0_0 hc0_0;have HB:=Aside0.mk (Below.refl w.heap.size w);have H:(if 0≤(shl .i64 1 (l0_0.length:Int)) then (if (shl .i64 1 (l0_0.length:Int):Int).toNat≤281474976710656 then ((Qbv.f k l0_0).bind fun t362=>(Qbj.l0 k (List.replicate (shl .i64 1 (l0_0.length:Int):Int).toNat false) ([] :List (List Int)) t362 (t362.length:Int) 0 l0_0)) else (none)) else (none))=some r:=h;clear h;obtain ⟨ji2,hji2⟩: ∃ j_:Int,(shl .i64 1 (l0_0.length:Int))=j_:=⟨_,rfl⟩
 replace H:(if 0≤(ji2) then (if (ji2:Int).toNat≤281474976710656 then ((Qbv.f k l0_0).bind fun t362=>(Qbj.l0 k (List.replicate (ji2:Int).toNat false) ([] :List (List Int)) t362 (t362.length:Int) 0 l0_0)) else (none)) else (none))=some r:=by first|(rw [hji2] at H;exact H)|(simp only [hji2] at H ⊢;exact H)
 have hji2_:(IntKind.i64.wrap (1*2 ^ min (l0_0.length:Int).toNat 64))=ji2:=hji2;have hji2z:(l0_0.length:Int)≤64→(IntKind.i64.wrap (1*2 ^ (l0_0.length:Int).toNat))=ji2:=Qd2 hji2;have hji2p:(IntKind.i64.wrap (1*2 ^ min l0_0.length 64))=ji2:=hji2_;have hji2q:(l0_0.length:Int)≤64→(IntKind.i64.wrap (1*2 ^ l0_0.length))=ji2:=hji2z;have hji2r:(IntKind.i64.wrap (2 ^ min l0_0.length 64))=ji2:=by have h_:=hji2p;rw [Int.one_mul] at h_;exact h_
 have hji2s:(l0_0.length:Int)≤64→(IntKind.i64.wrap (2 ^ l0_0.length))=ji2:=fun hle_=>by have h_:=hji2q hle_;rw [Int.one_mul] at h_;exact h_
 have hji2u:(IntKind.i64.wrap (2 ^ min (l0_0.length:Int).toNat 64))=ji2:=by have h_:=hji2_;rw [Int.one_mul] at h_;exact h_
 have hji2v:(l0_0.length:Int)≤64→(IntKind.i64.wrap (2 ^ (l0_0.length:Int).toNat))=ji2:=fun hle_=>by have h_:=hji2z hle_;rw [Int.one_mul] at h_;exact h_
 have hji2y:(wrap64 (1*2 ^ min (l0_0.length:Int).toNat 64))=ji2:=(Qcw _).symm.trans hji2_;have hji2x:(l0_0.length:Int)≤64→(wrap64 (1*2 ^ (l0_0.length:Int).toNat))=ji2:=fun h_=>(Qcw _).symm.trans (hji2z h_)
 by_cases c3:0≤(ji2)
 ·
  rw [if_pos c3] at H;have c3b0:=eq_true c3;have c3b1:=decide_eq_true c3;clear c3
  by_cases c4:(ji2:Int).toNat≤281474976710656
  ·
   rw [if_pos c4] at H;have c4b0:=eq_true c4;have c4b1:=decide_eq_true c4;clear c4;obtain ⟨y359,hy359⟩: ∃ y_:List Bool,y_=(List.replicate (ji2:Int).toNat false):=⟨_,rfl⟩
   replace H:((Qbv.f k l0_0).bind fun t362=>(Qbj.l0 k y359 ([] :List (List Int)) t362 (t362.length:Int) 0 l0_0))=some r:=by first|(rw [hy359];with_reducible exact H)|(have H2_:=(Option.bind_some _ _).symm.trans H;rw [hy359];with_reducible exact H2_)|(have H2_:=(Option.bind_some _ _).symm.trans H;with_reducible exact H2_)|with_reducible exact H|(rw [hy359];exact H)|exact H
   have Ny359:=Aside0.mk hy359;clear hy359;obtain ⟨t362,A5,H⟩:=bs H;(try dsimp only at H)
   have H':=Aside0.mk H;clear H;go_enter Tryz.func184,Tryz.ntmps184;go_wp2_with (first|(refine bE (N:=1) (cs:= #[.slice A0_0 l0_0.length c0_0]) (t:=26) ?_;intro gb358 hg w6 hbox hb;have BK358:=Aside0.mk (hbox);have GW358:=Aside0.mk ((by rw [hg];exact (Qd (uB HB)):w.heap.size≤gb358));have GE358:=GW358;replace HB:=Aside0.mk (Qc (uB HB) hb);clear hb hbox hg;have hcz7_0:=bC BK358;have hfz7_0:=Qe BK358.out 0)|((with_reducible refine Qbl (N:=14) rfl ?_);refine Kd.R_make Kd.bool _ 4 rfl (N:=14) rfl 121 _ _ rfl ji2 rfl rfl Tryz.underlying121 (.bool false) 1 info4 rfl (by decide) (by omega) false (ok:=fun _=>True) (okp:=fun _=>True) rfl (fun _ hk=>hk) trivial (of_decide_eq_true (by first|(with_reducible assumption)|assumption)) (Nat.le_trans (Nat.mul_le_mul_right _ (of_decide_eq_true (by first|(with_reducible assumption)|assumption):ji2.toNat≤281474976710656)) (by omega)) (Below.refl _ _) (Nat.le_refl _) ?_;intro v360 w8 ho9 hb hg_ hnew_;clear hg_ hnew_;(first|rw [←Ny359.out] at ho9|(simp only [Int.reduceToNat] at ho9;rw [←Ny359.out] at ho9));have HO361:=Aside0.mk (Kd.R_lower ho9 (Qd (vB HB)));replace BK358:=Aside0.mk (Qb (uK BK358) hb);replace HB:=Aside0.mk (Qc (vB HB) hb);clear hb ho9;have hcz10_0:=bC BK358;have hfz10_0:=Qe BK358.out 0)|(refine gA (some 16) Tryz.func171 #[.agg #[.slice A0_0 l0_0.length c0_0]] ?_;(with_reducible refine (Qbv.calls k _ _ l0_0 t362 _ (uD HR0_0 HB) HC0_0.out A5.out).mono ?_);rintro e w11 ⟨v363,rfl,ho0,hb⟩;refine ⟨_,rfl,?_⟩;replace HO361:=Aside0.mk (Kd.R_below (uR HO361) hb);have HO364:=Aside0.mk (Kd.R_lower ho0 (Qd (vB HB)));replace BK358:=Aside0.mk (Qb (uK BK358) hb);replace HB:=Aside0.mk (Qc (vB HB) hb);(try clear hb ho0);obtain ⟨Ao12,co12,eo12⟩:=Kd.R_slice HO364.out;subst eo12))
   go_loopg [4,18] k (fun kq v4 v18 w'=> ∃ (x3_1:List Bool) (x4_1:List (List Int)) (x18_1:Int),v18= .int .i64 x18_1∧Aside0 (Qbj.l0 kq x3_1 x4_1 t362 (t362.length:Int) x18_1 l0_0=some r)∧Aside0 (kq≤k)∧Aside0 (Kd.R Kd.bool 4 w' w.heap.size (fun _=>True) v360 x3_1)∧Aside0 (Kd.S (Kd.slice 3 (Kd.int .i64)) 24 w' w.heap.size (fun k_=>some k_≠((.slice Ao12 t362.length co12):Value).ownBlock) v4 x4_1)∧Aside0 (Kd.R (Kd.int .i64) 3 w' w.heap.size (fun _=>True) (.slice Ao12 t362.length co12) t362)∧Aside0 (w'.heap[gb358]? =some (.cells #[(.slice A0_0 l0_0.length c0_0)] 26 (0,0)))∧Aside0 (Below w.heap.size w w'))
   case atStart=>exact ⟨(y359),(([] :List (List Int))),(0),(by first|rfl|(simp;done)|(simp [*];done)),H',⟨Nat.le_refl _⟩,⟨uR HO361⟩,⟨by first|exact Kd.S_nil _ _ _ _ _|exact Kd.N_nil _ _ _ _ _|exact Kd.V_nil _ _ _ _ _|exact Kd.Q_nil _ _ _ _ _|exact Kd.R_nil _ _ _ _ _⟩,⟨uR HO364⟩,⟨uK BK358⟩,⟨(vB HB)⟩⟩
   case round=>
    clear H'
    try clear c3b0 c3b1 c4b0 c4b1 hcz10_0 hcz7_0 hfz10_0 hfz7_0
    obtain ⟨x3_1,x4_1,x18_1,rfl,HA,HK1,HO_3,HO_4,HO_16,BK358,HB⟩:=hrel;cases gk with
    |zero=>exact absurd HA.out (by simp [Qbj.l0])
    |succ k1=>
     have H:=HA.out;clear HA;simp only [Qbj.l0] at H
     by_cases c13:x18_1<(t362.length:Int)
     ·
      rw [if_pos c13] at H;have c13b0:=decide_eq_true c13;clear c13
      by_cases c14:0≤x18_1
      ·
       rw [if_pos c14] at H;have c14b0:=decide_eq_true c14;clear c14
       by_cases c15:x18_1<(t362.length:Int)
       ·
        rw [if_pos c15] at H;have c15b0:=decide_eq_true c15;clear c15
        by_cases c16:0≤(rd t362 x18_1)
        ·
         rw [if_pos c16] at H;have c16b0:=decide_eq_true c16;clear c16
         by_cases c17:(rd t362 x18_1)<(x3_1.length:Int)
         ·
          rw [if_pos c17] at H;have c17b0:=decide_eq_true c17;clear c17;obtain ⟨bq18,hbq18⟩: ∃ b_:Bool,b_=(rdOf false x3_1 (rd t362 x18_1)):=⟨_,rfl⟩
          replace H:(if bq18=true then (Qbj.l0 k1 x3_1 x4_1 t362 (t362.length:Int) (wrap64 (x18_1+1)) l0_0) else ((Qbz.f k1 l0_0 (rd t362 x18_1)).bind fun t367=>(Qbj.l1 k1 x3_1 x4_1 t367 t362 (t362.length:Int) x18_1 t367 (t367.length:Int) 0 l0_0)))=some r:=by rw [←hbq18] at H;exact H
          have Nbq18:=Aside0.mk hbq18;clear hbq18
          by_cases c19:bq18=true
          ·
           subst c19;rw [if_pos rfl] at H;have H':=Aside0.mk H;clear H;have p365:0≤(x18_1:Int):=of_decide_eq_true (by first|(with_reducible assumption)|assumption);have q365:x18_1<(t362.length:Int):=of_decide_eq_true (by first|(with_reducible assumption)|assumption);obtain ⟨ad365,e365,hx365_0⟩:=Kd.at_int (Kd.R_reads' HO_16.out).2.2 x18_1 p365 q365;cases e365;replace p365:=eq_true p365;replace q365:=eq_true q365;obtain ⟨Ao20,co20,eo20⟩:=Kd.R_slice HO_3.out;subst eo20;have p366:0≤((rd t362 x18_1):Int):=of_decide_eq_true (by first|(with_reducible assumption)|assumption);have q366:(rd t362 x18_1)<(x3_1.length:Int):=of_decide_eq_true (by first|(with_reducible assumption)|assumption);obtain ⟨ad366,e366,hx366_0⟩:=Kd.at_bool (Kd.R_reads' HO_3.out).2.2 (rd t362 x18_1) p366 q366
           (try rw [←Nbq18.out] at hx366_0)
           cases e366;replace p366:=eq_true p366;replace q366:=eq_true q366;go_wp2;go_roundg k1
           case measure=>have:=HK1.out;omega
           case rel=>exact ⟨(x3_1),(x4_1),(wrap64 (x18_1+1)),(by first|rfl|(simp;done)|(simp [*];done)),H',⟨by have:=HK1.out;omega⟩,⟨uR HO_3⟩,⟨uS HO_4⟩,⟨uR HO_16⟩,⟨uK BK358⟩,⟨(vB HB)⟩⟩
          ·
           replace c19:=Bool.eq_false_iff.mpr c19;subst c19;rw [if_neg (show ¬ (false=true) by decide)] at H;obtain ⟨t367,A21,H⟩:=bs H;(try dsimp only at H)
           have H':=Aside0.mk H;clear H;have p365:0≤(x18_1:Int):=of_decide_eq_true (by first|(with_reducible assumption)|assumption);have q365:x18_1<(t362.length:Int):=of_decide_eq_true (by first|(with_reducible assumption)|assumption);obtain ⟨ad365,e365,hx365_0⟩:=Kd.at_int (Kd.R_reads' HO_16.out).2.2 x18_1 p365 q365;cases e365;replace p365:=eq_true p365;replace q365:=eq_true q365;obtain ⟨Ao22,co22,eo22⟩:=Kd.R_slice HO_3.out;subst eo22;have p366:0≤((rd t362 x18_1):Int):=of_decide_eq_true (by first|(with_reducible assumption)|assumption);have q366:(rd t362 x18_1)<(x3_1.length:Int):=of_decide_eq_true (by first|(with_reducible assumption)|assumption);obtain ⟨ad366,e366,hx366_0⟩:=Kd.at_bool (Kd.R_reads' HO_3.out).2.2 (rd t362 x18_1) p366 q366
           (try rw [←Nbq18.out] at hx366_0)
           cases e366;replace p366:=eq_true p366;replace q366:=eq_true q366;have hcz23_0:=bC BK358;have hfz23_0:=Qe BK358.out 0;go_wp2_with (first|(refine gA (some 28) Tryz.func195 #[.agg #[.slice A0_0 l0_0.length c0_0], .int .i64 (rd t362 x18_1)] ?_;(with_reducible refine (Qbz.calls k1 _ _ l0_0 (rd t362 x18_1) t367 _ (uD HR0_0 HB) HC0_0.out A21.out).mono ?_);rintro e w24 ⟨v368,rfl,ho0,hb⟩;refine ⟨_,rfl,?_⟩;replace HO_3:=Aside0.mk (Kd.R_below (uR HO_3) hb);replace HO_4:=Aside0.mk (Kd.S_elder' (uS HO_4) (Kd.R_base ho0) hb);have HO369:=Aside0.mk (Kd.R_lower (Kd.R_new' ho0 (Kd.R_lt (uR HO_16))) (Qd (vB HB)));replace HO_16:=Aside0.mk (Kd.R_elder' (uR HO_16) (Kd.R_base ho0) hb);replace BK358:=Aside0.mk (Qb (uK BK358) hb);replace HB:=Aside0.mk (Qc (vB HB) hb);(try clear hb ho0);obtain ⟨Ao25,co25,eo25⟩:=Kd.R_slice HO369.out;subst eo25))
           go_loopg [31] k1 (fun kq v31 w'=> ∃ (x3_2:List Bool) (x31_2:Int),v31= .int .i64 x31_2∧Aside0 (Qbj.l1 kq x3_2 x4_1 t367 t362 (t362.length:Int) x18_1 t367 (t367.length:Int) x31_2 l0_0=some r)∧Aside0 (kq≤k1)∧Aside0 (Kd.R Kd.bool 4 w' w.heap.size (fun _=>True) (.slice (some ad366) x3_1.length co22) x3_2)∧Aside0 (Kd.S (Kd.slice 3 (Kd.int .i64)) 24 w' w.heap.size (fun k_=>some k_≠((.slice Ao25 t367.length co25):Value).ownBlock∧some k_≠((.slice (some ad365) t362.length co12):Value).ownBlock∧some k_≠((.slice Ao25 t367.length co25):Value).ownBlock) u4 x4_1)∧Aside0 (Kd.R (Kd.int .i64) 3 w' w.heap.size (fun k_=>some k_≠((.slice (some ad365) t362.length co12):Value).ownBlock) (.slice Ao25 t367.length co25) t367)∧Aside0 (Kd.R (Kd.int .i64) 3 w' w.heap.size (fun k_=>some k_≠((.slice Ao25 t367.length co25):Value).ownBlock∧some k_≠((.slice Ao25 t367.length co25):Value).ownBlock) (.slice (some ad365) t362.length co12) t362)∧Aside0 (Kd.R (Kd.int .i64) 3 w' w.heap.size (fun k_=>some k_≠((.slice (some ad365) t362.length co12):Value).ownBlock) (.slice Ao25 t367.length co25) t367)∧Aside0 (w'.heap[gb358]? =some (.cells #[(.slice A0_0 l0_0.length c0_0)] 26 (0,0)))∧Aside0 (Below w.heap.size w w'))
           case atStart=>exact ⟨(x3_1),(0),(by first|rfl|(simp;done)|(simp [*];done)),H',⟨Nat.le_refl _⟩,⟨uR HO_3⟩,⟨by (with_reducible repeat (first|apply Kd.S_alloc|apply Kd.S_drewN|apply Kd.S_drew));exact Kd.S_mono HO_4.out (fun _ hk=>⟨hk.2,⟨hk.1,hk.2⟩⟩)⟩,⟨Kd.R_mono (uR HO369) (fun _ hk=>hk.2)⟩,⟨Kd.R_mono (uR HO_16) (fun _ hk=>⟨hk.2,hk.2⟩)⟩,⟨Kd.R_mono (uR HO369) (fun _ hk=>hk.2)⟩,⟨uK BK358⟩,⟨(vB HB)⟩⟩
           case round=>
            clear H'
            try clear c13b0 c14b0 c15b0 c16b0 c17b0 hcz23_0 hfz23_0 hx365_0 hx366_0 p365 p366 q365 q366
            obtain ⟨x3_2,x31_2,rfl,HA,HK2,HO_3,HO_4,HO_7,HO_16,HO_29,BK358,HB⟩:=hrel;have hl3_2:=(Kd.R_reads' HO_3.out).1;rw [hl3_2] at HO_3
            (try simp only [hl3_2])
            (try simp only [hl3_2] at BK358)
            (try simp only [hl3_2] at HO_4)
            (try simp only [hl3_2] at HO_7)
            (try simp only [hl3_2] at HO_16)
            (try simp only [hl3_2] at HO_29)
            cases gk with
            |zero=>exact absurd HA.out (by simp [Qbj.l1])
            |succ k2=>
             have H:=HA.out;clear HA;simp only [Qbj.l1] at H
             by_cases c26:x31_2<(t367.length:Int)
             ·
              rw [if_pos c26] at H;have c26b0:=decide_eq_true c26;clear c26
              by_cases c27:0≤x31_2
              ·
               rw [if_pos c27] at H;have c27b0:=decide_eq_true c27;clear c27
               by_cases c28:x31_2<(t367.length:Int)
               ·
                rw [if_pos c28] at H;have c28b0:=decide_eq_true c28;clear c28
                by_cases c29:0≤(rd t367 x31_2)
                ·
                 rw [if_pos c29] at H;have c29b0:=decide_eq_true c29;clear c29
                 by_cases c30:(rd t367 x31_2)<(x3_2.length:Int)
                 ·
                  rw [if_pos c30] at H;have c30b0:=decide_eq_true c30;clear c30;obtain ⟨y371,hy371⟩: ∃ y_:List Bool,y_=(x3_2.set ((rd t367 x31_2):Int).toNat true):=⟨_,rfl⟩
                  replace H:(Qbj.l1 k2 y371 x4_1 t367 t362 (t362.length:Int) x18_1 t367 (t367.length:Int) (wrap64 (x31_2+1)) l0_0)=some r:=by first|(rw [hy371];with_reducible exact H)|(have H2_:=(Option.bind_some _ _).symm.trans H;rw [hy371];with_reducible exact H2_)|(have H2_:=(Option.bind_some _ _).symm.trans H;with_reducible exact H2_)|with_reducible exact H|(rw [hy371];exact H)|exact H
                  have Ny371:=Aside0.mk hy371;clear hy371;have H':=Aside0.mk H;clear H;have p370:0≤(x31_2:Int):=of_decide_eq_true (by first|(with_reducible assumption)|assumption);have q370:x31_2<(t367.length:Int):=of_decide_eq_true (by first|(with_reducible assumption)|assumption);obtain ⟨ad370,e370,hx370_0⟩:=Kd.at_int (Kd.R_reads' HO_29.out).2.2 x31_2 p370 q370;cases e370;replace p370:=eq_true p370;replace q370:=eq_true q370;have p31:0≤((rd t367 x31_2):Int):=of_decide_eq_true (by first|(with_reducible assumption)|assumption);have q31:((rd t367 x31_2):Int)<((x3_2.length:Int):Int):=of_decide_eq_true (by first|(with_reducible assumption)|assumption);obtain ⟨go31,co31,eo31,gb31,gl31,cl31,HG31⟩:=Kd.R_form HO_3.out (by omega)
                  (first|cases eo31|(injection eo31 with ea_ en_ ec_;(first|subst ea_|(injection ea_ with ea_;subst ea_));subst ec_;clear en_))
                  have GB31:=Aside0.mk gb31;have GG31:=Aside0.mk HG31;clear gb31 gl31 HG31
                  (first|simp only [Qe9] at hx366_0|skip)
                  obtain ⟨hx31_0,hf31_0⟩:=Kd.R_celln false HO_3.out ((rd t367 x31_2):Int) p31 q31;replace p31:=eq_true p31;replace q31:=eq_true q31;have HP32:=Kd.R_putg HO_3.out ((rd t367 x31_2):Int) true;go_wp2_with (first|((with_reducible refine Qmv (t:=4) (p:=37) rfl ?_);refine Ql0 (t:=4) (p:=37) (v:= ?vo_w33) (w1:=(wr.setCell ⟨go31,((rd t367 x31_2):Int).toNat,none⟩ (.bool true))) ?hg ?ho ?hn ?hr ?_;(case ho=>rfl);(case hg=>rfl);(case hn=>rfl);(case hr=>first|(go_simp;done)|(go_simp;rfl));intro w33 hw;have hg:wr.grownBy w33 (some go31):=(by rw [hw];exact HP32.2);have hp_:Kd.R Kd.bool 4 w33 w.heap.size (fun _=>True) (.slice (some ⟨go31,0,none⟩) x3_2.length co22) y371:=(by rw [hw,Ny371.out];exact HP32.1);clear HP32;replace HO_4:=Aside0.mk (Kd.S_over' (v:=(.slice (some ⟨go31,0,none⟩) x3_2.length co22)) (uS HO_4) (Kd.R_typed HO_3.out) (by decide) hg);replace HO_7:=Aside0.mk (Kd.R_over' (v:=(.slice (some ⟨go31,0,none⟩) x3_2.length co22)) (uR HO_7) (Kd.R_typed HO_3.out) (by decide) hg);replace HO_16:=Aside0.mk (Kd.R_over' (v:=(.slice (some ⟨go31,0,none⟩) x3_2.length co22)) (uR HO_16) (Kd.R_typed HO_3.out) (by decide) hg);replace HO_29:=Aside0.mk (Kd.R_over' (v:=(.slice (some ⟨go31,0,none⟩) x3_2.length co22)) (uR HO_29) (Kd.R_typed HO_3.out) (by decide) hg);replace BK358:=Aside0.mk (Qdq (uK BK358) hg (Kd.R_ne HO_3.out BK358.out (by decide)));replace HO_3:=Aside0.mk (hp_);replace HB:=Aside0.mk ((by rw [hw];exact Ql (HB.out) GB31.out:Below w.heap.size w w33));clear hg hw hp_))
                  (try simp only [←hl3_2])
                  go_roundg k2
                  case measure=>have:=HK1.out;have:=HK2.out;omega
                  case rel=>exact ⟨(y371),(wrap64 (x31_2+1)),(by first|rfl|(simp;done)|(simp [*];done)),H',⟨by have:=HK1.out;have:=HK2.out;omega⟩,⟨by (try simp only [hl3_2]);(with_reducible repeat (first|apply Kd.R_alloc|apply Kd.R_drewN|apply Kd.R_drew));exact HO_3.out⟩,⟨by (try simp only [hl3_2]);(with_reducible repeat (first|apply Kd.S_alloc|apply Kd.S_drewN|apply Kd.S_drew));exact HO_4.out⟩,⟨by (try simp only [hl3_2]);(with_reducible repeat (first|apply Kd.R_alloc|apply Kd.R_drewN|apply Kd.R_drew));exact HO_7.out⟩,⟨by (try simp only [hl3_2]);(with_reducible repeat (first|apply Kd.R_alloc|apply Kd.R_drewN|apply Kd.R_drew));exact HO_16.out⟩,⟨by (try simp only [hl3_2]);(with_reducible repeat (first|apply Kd.R_alloc|apply Kd.R_drewN|apply Kd.R_drew));exact HO_29.out⟩,⟨by (try simp only [hl3_2]);(with_reducible repeat (first|refine Qq ?_ _|refine Qs ?_|refine Qp ?_ _));exact BK358.out⟩,⟨(vB HB)⟩⟩
                 ·
                  rw [if_neg c30] at H;exact absurd H (by simp)
                ·
                 rw [if_neg c29] at H;exact absurd H (by simp)
               ·
                rw [if_neg c28] at H;exact absurd H (by simp)
              ·
               rw [if_neg c27] at H;exact absurd H (by simp)
             ·
              rw [if_neg c26] at H;have c26b0:=decide_eq_false c26;clear c26
              by_cases c34:x4_1.length<5864062014805
              ·
               rw [if_pos c34] at H;have LMc34:=Aside0.mk c34;clear c34;obtain ⟨y372,hy372⟩: ∃ y_:List (List Int),y_=(x4_1++ [t367]):=⟨_,rfl⟩
               replace H:(Qbj.l0 k2 x3_2 y372 t362 (t362.length:Int) (wrap64 (x18_1+1)) l0_0)=some r:=by first|(rw [hy372];with_reducible exact H)|(have H2_:=(Option.bind_some _ _).symm.trans H;rw [hy372];with_reducible exact H2_)|(have H2_:=(Option.bind_some _ _).symm.trans H;with_reducible exact H2_)|with_reducible exact H|(rw [hy372];exact H)|exact H
               have Ny372:=Aside0.mk hy372;clear hy372;have H':=Aside0.mk H;clear H;go_wp2_with (first|((with_reducible refine Qb5 (b:= .append) (xs:= #[.tmp 39, .tmp 41]) rfl ?_);at_builtin;refine Kd.S_append (Kd.slice 3 (Kd.int .i64)) (w0:=w) w.heap.size rfl (.tmp 39) (.tmp 41) 40 24 (.slice none 0 0) 24 rfl Tryz.underlying40 Qe0 rfl (by decide) (by omega) u4 x4_1 t367 [.slice Ao25 t367.length co25] (fun k_=>some k_≠(.slice (some ad365) t362.length co12:Value).ownBlock) (fun k_=>some k_=(.slice Ao25 t367.length co25:Value).ownBlock) rfl rfl ?aP (fun k_ hk_=>((Kd.R_mono (ok':=fun k_=>((fun k_=>some k_≠(.slice (some ad365) t362.length co12:Value).ownBlock)) k_∧some k_≠(u4:Value).ownBlock) (Kd.R_apart' (HO_7.out) (Kd.S_typed HO_4.out) (by decide)) (fun k_ hk=>⟨hk.1,hk.2⟩))).1 k_ hk_.symm) ?aF ?aO ?aB ?aS ?aL ?_;(case aP=>exact Kd.M_row (Kd.R_mono (Kd.R_tight rfl (Kd.R_mono (ok':=fun k_=>((fun k_=>some k_≠(.slice (some ad365) t362.length co12:Value).ownBlock)) k_∧some k_≠(u4:Value).ownBlock) (Kd.R_apart' (HO_7.out) (Kd.S_typed HO_4.out) (by decide)) (fun k_ hk=>⟨hk.1,hk.2⟩))) (fun _ h_=>h_)));(case aB=>exact (vB HB));(case aF=>exact (fun k_ hk=>Kd.fresh' (Kd.R_lt (uR HO_16)) k_ hk));(case aO=>exact (by (with_reducible repeat (first|apply Kd.S_alloc|apply Kd.S_drewN|apply Kd.S_drew));exact Kd.S_mono HO_4.out (fun k_ hk=>⟨hk.2.1,fun e_=>hk.1 e_⟩)));(case aS=>exact (Qd (vB HB)));(case aL=>have:=LMc34.out;omega);intro v373 w35 ho hb hg hat;rw [←Ny372.out] at ho;replace HO_3:=Aside0.mk (Kd.R_over' (uR HO_3) (Kd.S_typed (uS HO_4)) (by decide) hg);replace HO_16:=Aside0.mk (Kd.R_over' (uR HO_16) (Kd.S_typed (uS HO_4)) (by decide) hg);replace BK358:=Aside0.mk (Qdq (uK BK358) hg (Kd.S_ne HO_4.out BK358.out (by decide)));replace HB:=Aside0.mk (hb);have HO374:=Aside0.mk (ho);clear HO_4 HO_7;clear ho hb hg hat))
               (try simp only [←hl3_2])
               go_roundg k2
               case measure=>have:=HK1.out;have:=HK2.out;omega
               case rel=>exact ⟨(x3_2),(y372),(wrap64 (x18_1+1)),(by first|rfl|(simp;done)|(simp [*];done)),H',⟨by have:=HK1.out;have:=HK2.out;omega⟩,⟨by (try simp only [hl3_2]);(with_reducible repeat (first|apply Kd.R_alloc|apply Kd.R_drewN|apply Kd.R_drew));exact HO_3.out⟩,⟨by (try simp only [hl3_2]);(with_reducible repeat (first|apply Kd.S_alloc|apply Kd.S_drewN|apply Kd.S_drew));exact HO374.out⟩,⟨by (try simp only [hl3_2]);(with_reducible repeat (first|apply Kd.R_alloc|apply Kd.R_drewN|apply Kd.R_drew));exact Kd.R_mono HO_16.out (fun _ hk=>trivial)⟩,⟨by (try simp only [hl3_2]);(with_reducible repeat (first|refine Qq ?_ _|refine Qs ?_|refine Qp ?_ _));exact BK358.out⟩,⟨(vB HB)⟩⟩
              ·
               rw [if_neg c34] at H;exact absurd H (by simp)
         ·
          rw [if_neg c17] at H;exact absurd H (by simp)
        ·
         rw [if_neg c16] at H;exact absurd H (by simp)
       ·
        rw [if_neg c15] at H;exact absurd H (by simp)
      ·
       rw [if_neg c14] at H;exact absurd H (by simp)
     ·
      rw [if_neg c13] at H;have c13b0:=decide_eq_false c13;clear c13;obtain rfl:=Option.some.inj H;go_wp2
      go_ret
      exact ⟨_,by first|rfl|(simp [Qf,Qg] <;>rfl)|(simp only [←hji2];first|rfl|(simp [Qf,Qg] <;>rfl))|(simp [*,Qf,Qg] <;>rfl),by (with_reducible repeat (first|apply Kd.S_alloc|apply Kd.S_drewN|apply Kd.S_drew));exact Kd.S_mono HO_4.out (fun _ hk=>trivial),(vB HB)⟩
  ·
   rw [if_neg c4] at H;exact absurd H (by simp)
 ·
  rw [if_neg c3] at H;exact absurd H (by simp)
def Qda.f (k : Nat) (l0_0 : List Int) : Option ((List (List Int)) × Bool) := (Qn.f k l0_0).bind fun t376 => (if t376 = true then ((Qbj.f k l0_0).bind fun t377 => (some (t377, true))) else (some (([] : List (List Int)), false)))
theorem Qda.mono : ∀ a0 k, LeO (Qda.f k a0) (Qda.f (k + 1) a0) := by
 intro a0 k;unfold Qda.f
 repeat' (with_reducible first|apply Qbj.mono|apply Qn.mono|exact LeO.refl _|exact LeO.none _|refine LeO.ite ?_ ?_|refine LeO.bind ?_ (fun _=> ?_))
set_option maxHeartbeats 8000000 in
set_option maxRecDepth 100000 in
theorem Qda.calls (k : Nat) (A0_0 : Option Addr) (c0_0 : Nat) (l0_0 : List Int) (r1 : List (List Int)) (r2 : Bool) (w : World) (hr0_0 : Kd.C (Kd.int .i64) w A0_0 l0_0.length l0_0) (hc0_0 : l0_0.length ≤ c0_0) (h : Qda.f k l0_0 = some (r1, r2)) :
 Calls Tryz.prog 36 #[.agg #[.slice A0_0 l0_0.length c0_0]] w fun e w'=> ∃ v0_:Value,e= .returned (.tuple #[v0_, .bool r2])∧Kd.S (Kd.slice 3 (Kd.int .i64)) 24 w' w.heap.size (fun _=>True) v0_ r1∧Below w.heap.size w w':=by
 have hu26:=Tryz.underlying26;have HR0_0:=Aside0.mk hr0_0;have HC0_0:=Aside0.mk hc0_0;clear hr0_0 hc0_0;have HB:=Aside0.mk (Below.refl w.heap.size w);have H:((Qn.f k l0_0).bind fun t376=>(if t376=true then ((Qbj.f k l0_0).bind fun t377=>(some (t377,true))) else (some (([] :List (List Int)),false))))=some (r1,r2):=h;clear h;obtain ⟨t376,A2,H⟩:=bs H;(try dsimp only at H)
 by_cases c3:t376=true
 ·
  subst c3;rw [if_pos rfl] at H;obtain ⟨t377,A4,H⟩:=bs H;(try dsimp only at H)
  simp only [Option.some.injEq,Prod.mk.injEq] at H;obtain ⟨rfl,rfl⟩:=H;go_enter Tryz.func36,Tryz.ntmps36;go_wp2_with (first|(refine bE (N:=1) (cs:= #[.slice A0_0 l0_0.length c0_0]) (t:=26) ?_;intro gb375 hg w5 hbox hb;have BK375:=Aside0.mk (hbox);have GW375:=Aside0.mk ((by rw [hg];exact (Qd (uB HB)):w.heap.size≤gb375));have GE375:=GW375;replace HB:=Aside0.mk (Qc (uB HB) hb);clear hb hbox hg;have hcz6_0:=bC BK375;have hfz6_0:=Qe BK375.out 0)|(refine gA (some 5) Tryz.func183 #[.agg #[.slice A0_0 l0_0.length c0_0]] ?_;(with_reducible refine (Qn.calls k _ _ l0_0 true _ (uD HR0_0 HB) HC0_0.out A2.out).mono ?_);rintro e w7 ⟨rfl,hb⟩;refine ⟨_,rfl,?_⟩;replace BK375:=Aside0.mk (Qb (uK BK375) hb);replace HB:=Aside0.mk (Qc (vB HB) hb);(try clear hb);have hcz8_0:=bC BK375;have hfz8_0:=Qe BK375.out 0)|(refine gA (some 8) Tryz.func184 #[.agg #[.slice A0_0 l0_0.length c0_0]] ?_;(with_reducible refine (Qbj.calls k _ _ l0_0 t377 _ (uD HR0_0 HB) HC0_0.out A4.out).mono ?_);rintro e w9 ⟨v378,rfl,ho0,hb⟩;refine ⟨_,rfl,?_⟩;have HO379:=Aside0.mk (Kd.S_lower ho0 (Qd (vB HB)));replace BK375:=Aside0.mk (Qb (uK BK375) hb);replace HB:=Aside0.mk (Qc (vB HB) hb);(try clear hb ho0)))
  go_ret2
  exact ⟨_,by first|rfl|(simp [Qf,Qg] <;>rfl)|(simp [*,Qf,Qg] <;>rfl),uS HO379,(vB HB)⟩
 ·
  replace c3:=Bool.eq_false_iff.mpr c3;subst c3;rw [if_neg (show ¬ (false=true) by decide)] at H;simp only [Option.some.injEq,Prod.mk.injEq] at H;obtain ⟨rfl,rfl⟩:=H;go_enter Tryz.func36,Tryz.ntmps36;go_wp2_with (first|(refine bE (N:=1) (cs:= #[.slice A0_0 l0_0.length c0_0]) (t:=26) ?_;intro gb375 hg w10 hbox hb;have BK375:=Aside0.mk (hbox);have GW375:=Aside0.mk ((by rw [hg];exact (Qd (uB HB)):w.heap.size≤gb375));have GE375:=GW375;replace HB:=Aside0.mk (Qc (uB HB) hb);clear hb hbox hg;have hcz11_0:=bC BK375;have hfz11_0:=Qe BK375.out 0)|(refine gA (some 5) Tryz.func183 #[.agg #[.slice A0_0 l0_0.length c0_0]] ?_;(with_reducible refine (Qn.calls k _ _ l0_0 false _ (uD HR0_0 HB) HC0_0.out A2.out).mono ?_);rintro e w12 ⟨rfl,hb⟩;refine ⟨_,rfl,?_⟩;replace BK375:=Aside0.mk (Qb (uK BK375) hb);replace HB:=Aside0.mk (Qc (vB HB) hb);(try clear hb)))
  go_ret2
  exact ⟨_,by first|rfl|(simp [Qf,Qg] <;>rfl)|(simp [*,Qf,Qg] <;>rfl),by first|exact Kd.S_nil _ _ _ _ _|exact Kd.N_nil _ _ _ _ _|exact Kd.V_nil _ _ _ _ _|exact Kd.Q_nil _ _ _ _ _|exact Kd.R_nil _ _ _ _ _,(vB HB)⟩
def Qba.l0 : Nat → List Int → List (List Int) → Int → Int → Option (List Int)
 |0,_,_,_,_=>none
 |k+1,x3,x7,x8,x9=>if x9<x8 then (if 0≤x9 then (if x9<(x7.length:Int) then (if x3.length<17592186044416 then (Qba.l0 k (x3++ [((Qu x7 x9).length:Int)]) x7 x8 (wrap64 (x9+1))) else (none)) else (none)) else (none)) else (some x3)
def Qba.f (k : Nat) (l0 : List (List Int)) : Option (List Int) := Qba.l0 k (([] : List Int)) l0 (l0.length : Int) 0
theorem Qba.mono_l : ∀ k, (∀ y0 y1 y2 y3, LeO (Qba.l0 k y0 y1 y2 y3) (Qba.l0 (k + 1) y0 y1 y2 y3))
 |0=>fun _ _ _ _ r h=>by simp [Qba.l0] at h
 |k+1=>by
  have ih0:=Qba.mono_l k
  ·
   intro y0 y1 y2 y3;unfold Qba.l0
   repeat' first
   |(with_reducible exact ih0 _ _ _ _)
   |(with_reducible exact LeO.refl _)
   |(with_reducible exact LeO.none _)
   |(with_reducible refine LeO.ite ?_ ?_)
   |(with_reducible refine LeO.bind ?_ (fun _=> ?_))
   |exact ih0 _ _ _ _
   |exact LeO.none _
   |refine LeO.ite ?_ ?_
   |refine LeO.bind ?_ (fun _=> ?_)
theorem Qba.mono : ∀ a0 k, LeO (Qba.f k a0) (Qba.f (k + 1) a0) := by
 intro a0 k;have ih0:=Qba.mono_l k;unfold Qba.f
 repeat' (with_reducible first|apply ih0|exact LeO.refl _|exact LeO.none _|refine LeO.ite ?_ ?_|refine LeO.bind ?_ (fun _=> ?_))
set_option maxHeartbeats 8000000 in
set_option maxRecDepth 100000 in
theorem Qba.calls (k : Nat) (A0 : Option Addr) (c0 : Nat) (l0 : List (List Int)) (r : List Int) (w : World) (hr0 : Kd.C (Kd.slice 3 (Kd.int .i64)) w A0 l0.length l0) (hc0 : l0.length ≤ c0) (h : Qba.f k l0 = some r) :
 Calls Tryz.prog 185 #[.slice A0 l0.length c0] w fun e w'=> ∃ v0_:Value,e= .returned (v0_)∧Kd.R (Kd.int .i64) 3 w' w.heap.size (fun _=>True) v0_ r∧Below w.heap.size w w':=by
 have HR0:=Aside0.mk hr0;have HC0:=Aside0.mk hc0;clear hr0 hc0;have HB:=Aside0.mk (Below.refl w.heap.size w);have H:(Qba.l0 k (([] :List Int)) l0 (l0.length:Int) 0)=some r:=h;clear h;obtain ⟨y380,hy380⟩: ∃ y_:List Int,y_=(([] :List Int)):=⟨_,rfl⟩
 replace H:(Qba.l0 k y380 l0 (l0.length:Int) 0)=some r:=by first|(rw [hy380];with_reducible exact H)|(have H2_:=(Option.bind_some _ _).symm.trans H;rw [hy380];with_reducible exact H2_)|(have H2_:=(Option.bind_some _ _).symm.trans H;with_reducible exact H2_)|with_reducible exact H|(rw [hy380];exact H)|exact H
 have Ny380:=Aside0.mk hy380;clear hy380;have H':=Aside0.mk H;clear H;go_enter Tryz.func185,Tryz.ntmps185;go_wp2_with (first|((with_reducible refine Qbl (N:=6) rfl ?_);refine Kd.R_lit (Kd.int .i64) _ 3 ?hg (N:=6) ?hd (xs:=([] :List Int)) (inner:= []) (ok:=fun _=>True) (okp:=fun _=>True) ?hr ?hp (fun _ hk=>hk) trivial (Below.refl _ _) (Nat.le_refl _) (by simp) ?_;(case hd=>rfl);(case hg=>rfl);(case hr=>first|(go_simp;done)|(go_simp;rfl));(case hp=>exact (Reps.none _ _));intro v381 w2 ho3 hb hg_ hnew_;clear hg_ hnew_;(first|rw [←Ny380.out] at ho3|(simp only [Int.reduceToNat] at ho3;rw [←Ny380.out] at ho3));have HO382:=Aside0.mk (Kd.R_lower ho3 (Qd (uB HB)));replace HB:=Aside0.mk (Qc (uB HB) hb);clear hb ho3))
 go_loopg [3,9] k (fun kq v3 v9 w'=> ∃ (x3_1:List Int) (x9_1:Int),v9= .int .i64 x9_1∧Aside0 (Qba.l0 kq x3_1 l0 (l0.length:Int) x9_1=some r)∧Aside0 (kq≤k)∧Aside0 (Kd.R (Kd.int .i64) 3 w' w.heap.size (fun _=>True) v3 x3_1)∧Aside0 (Below w.heap.size w w'))
 case atStart=>exact ⟨(y380),(0),(by first|rfl|(simp;done)|(simp [*];done)),H',⟨Nat.le_refl _⟩,⟨uR HO382⟩,⟨uB HB⟩⟩
 case round=>
  clear H'
  skip
  obtain ⟨x3_1,x9_1,rfl,HA,HK1,HO_3,HB⟩:=hrel;cases gk with
  |zero=>exact absurd HA.out (by simp [Qba.l0])
  |succ k1=>
   have H:=HA.out;clear HA;simp only [Qba.l0] at H
   by_cases c4:x9_1<(l0.length:Int)
   ·
    rw [if_pos c4] at H;have c4b0:=decide_eq_true c4;clear c4
    by_cases c5:0≤x9_1
    ·
     rw [if_pos c5] at H;have c5b0:=decide_eq_true c5;clear c5
     by_cases c6:x9_1<(l0.length:Int)
     ·
      rw [if_pos c6] at H;have c6b0:=decide_eq_true c6;clear c6
      by_cases c7:x3_1.length<17592186044416
      ·
       rw [if_pos c7] at H;have LMc7:=Aside0.mk c7;clear c7;obtain ⟨y384,hy384⟩: ∃ y_:List Int,y_=(x3_1++ [((Qu l0 x9_1).length:Int)]):=⟨_,rfl⟩
       replace H:(Qba.l0 k1 y384 l0 (l0.length:Int) (wrap64 (x9_1+1)))=some r:=by first|(rw [hy384];with_reducible exact H)|(have H2_:=(Option.bind_some _ _).symm.trans H;rw [hy384];with_reducible exact H2_)|(have H2_:=(Option.bind_some _ _).symm.trans H;with_reducible exact H2_)|with_reducible exact H|(rw [hy384];exact H)|exact H
       have Ny384:=Aside0.mk hy384;clear hy384;have H':=Aside0.mk H;clear H;have p383:0≤(x9_1:Int):=of_decide_eq_true (by first|(with_reducible assumption)|assumption);have q383:x9_1<(l0.length:Int):=of_decide_eq_true (by first|(with_reducible assumption)|assumption);obtain ⟨ad383,A383_0,c383_0,e383,hx383_0,hl383_0,hi383_0⟩:=Qfg HR0.out x9_1 p383 q383;cases e383;replace hx383_0:=(HB.out.cell (World.block_lt_of_cell? w _ hx383_0)).trans hx383_0;have HR383_0:=Aside0.mk hi383_0;have HC383_0:=Aside0.mk hl383_0;clear hi383_0 hl383_0;replace p383:=eq_true p383;replace q383:=eq_true q383;go_wp2_with (first|((with_reducible refine Qb5 (b:= .append) (xs:= #[.tmp 13, .tmp 16]) rfl ?_);at_builtin;refine Kd.R_append (Kd.int .i64) (w0:=w) w.heap.size rfl (.tmp 13) (.tmp 16) 24 3 (.int .i64 0) 8 rfl Tryz.underlying24 Qdv rfl (by decide) (by omega) u3 x3_1 ((Qu l0 x9_1).length:Int) [.int .i64 ((Qu l0 x9_1).length:Int)] (fun _=>True) (fun _=>False) rfl rfl ?aP (fun _ hk=>hk.elim) ?aF ?aO ?aB ?aS ?aL ?_;(case aP=>exact rfl);(case aB=>exact (uB HB));(case aF=>exact (fun _ _=>trivial));(case aO=>exact (uR HO_3));(case aS=>exact (Qd (uB HB)));(case aL=>have:=LMc7.out;omega);intro v385 w8 ho hb hg hat;rw [←Ny384.out] at ho;replace HB:=Aside0.mk (hb);have HO386:=Aside0.mk (ho);clear HO_3;clear ho hb hg hat));go_roundg k1
       case measure=>have:=HK1.out;omega
       case rel=>exact ⟨(y384),(wrap64 (x9_1+1)),(by first|rfl|(simp;done)|(simp [*];done)),H',⟨by have:=HK1.out;omega⟩,⟨uR HO386⟩,⟨uB HB⟩⟩
      ·
       rw [if_neg c7] at H;exact absurd H (by simp)
     ·
      rw [if_neg c6] at H;exact absurd H (by simp)
    ·
     rw [if_neg c5] at H;exact absurd H (by simp)
   ·
    rw [if_neg c4] at H;have c4b0:=decide_eq_false c4;clear c4;obtain rfl:=Option.some.inj H;go_wp2
    go_ret
    exact ⟨_,by first|rfl|(simp [Qf,Qg] <;>rfl)|(simp [*,Qf,Qg] <;>rfl),uR HO_3,uB HB⟩
def Qcp.f (k : Nat) (l0_0 : List Int) : Option (List Int × Bool) := (Qy.f k l0_0).bind fun t388 => (if t388 = true then ((Qbm.f k l0_0).bind fun t389 => ((Qba.f k t389).bind fun t392 => (some (t392, true)))) else (some (([] : List Int), false)))
theorem Qcp.mono : ∀ a0 k, LeO (Qcp.f k a0) (Qcp.f (k + 1) a0) := by
 intro a0 k;unfold Qcp.f
 repeat' (with_reducible first|apply Qy.mono|apply Qbm.mono|apply Qba.mono|exact LeO.refl _|exact LeO.none _|refine LeO.ite ?_ ?_|refine LeO.bind ?_ (fun _=> ?_))
set_option maxHeartbeats 8000000 in
set_option maxRecDepth 100000 in
theorem Qcp.calls (k : Nat) (A0_0 : Option Addr) (c0_0 : Nat) (l0_0 : List Int) (r1 : List Int) (r2 : Bool) (w : World) (hr0_0 : Kd.C (Kd.int .i64) w A0_0 l0_0.length l0_0) (hc0_0 : l0_0.length ≤ c0_0) (h : Qcp.f k l0_0 = some (r1, r2)) :
 Calls Tryz.prog 37 #[.agg #[.slice A0_0 l0_0.length c0_0]] w fun e w'=> ∃ v0_:Value,e= .returned (.tuple #[v0_, .bool r2])∧Kd.R (Kd.int .i64) 3 w' w.heap.size (fun _=>True) v0_ r1∧Below w.heap.size w w':=by
 have hu26:=Tryz.underlying26;have HR0_0:=Aside0.mk hr0_0;have HC0_0:=Aside0.mk hc0_0;clear hr0_0 hc0_0;have HB:=Aside0.mk (Below.refl w.heap.size w);have H:((Qy.f k l0_0).bind fun t388=>(if t388=true then ((Qbm.f k l0_0).bind fun t389=>((Qba.f k t389).bind fun t392=>(some (t392,true)))) else (some (([] :List Int),false))))=some (r1,r2):=h;clear h;obtain ⟨t388,A2,H⟩:=bs H;(try dsimp only at H)
 by_cases c3:t388=true
 ·
  subst c3;rw [if_pos rfl] at H;obtain ⟨t389,A4,H⟩:=bs H;(try dsimp only at H)
  obtain ⟨t392,A5,H⟩:=bs H;(try dsimp only at H)
  simp only [Option.some.injEq,Prod.mk.injEq] at H;obtain ⟨rfl,rfl⟩:=H;go_enter Tryz.func37,Tryz.ntmps37;go_wp2_with (first|(refine bE (N:=1) (cs:= #[.slice A0_0 l0_0.length c0_0]) (t:=26) ?_;intro gb387 hg w6 hbox hb;have BK387:=Aside0.mk (hbox);have GW387:=Aside0.mk ((by rw [hg];exact (Qd (uB HB)):w.heap.size≤gb387));have GE387:=GW387;replace HB:=Aside0.mk (Qc (uB HB) hb);clear hb hbox hg;have hcz7_0:=bC BK387;have hfz7_0:=Qe BK387.out 0)|(refine gA (some 5) Tryz.func178 #[.agg #[.slice A0_0 l0_0.length c0_0]] ?_;(with_reducible refine (Qy.calls k _ _ l0_0 true _ (uD HR0_0 HB) HC0_0.out A2.out).mono ?_);rintro e w8 ⟨rfl,hb⟩;refine ⟨_,rfl,?_⟩;replace BK387:=Aside0.mk (Qb (uK BK387) hb);replace HB:=Aside0.mk (Qc (vB HB) hb);(try clear hb);have hcz9_0:=bC BK387;have hfz9_0:=Qe BK387.out 0)|(refine gA (some 8) Tryz.func182 #[.agg #[.slice A0_0 l0_0.length c0_0]] ?_;(with_reducible refine (Qbm.calls k _ _ l0_0 t389 _ (uD HR0_0 HB) HC0_0.out A4.out).mono ?_);rintro e w10 ⟨v390,rfl,ho0,hb⟩;refine ⟨_,rfl,?_⟩;have HO391:=Aside0.mk (Kd.S_lower ho0 (Qd (vB HB)));replace BK387:=Aside0.mk (Qb (uK BK387) hb);replace HB:=Aside0.mk (Qc (vB HB) hb);(try clear hb ho0);obtain ⟨Ao11,co11,eo11⟩:=Kd.S_slice HO391.out;subst eo11)|(refine gA (some 9) Tryz.func185 #[.slice Ao11 t389.length co11] ?_;(with_reducible refine (Qba.calls k _ _ t389 t392 _ ?side1 ?side2 A5.out).mono ?_);(case side1=>repeat (first|exact (Kd.S_reads' HO391.out).2.2|(with_reducible refine Kd.C_alloc ?_ _)|(with_reducible refine Kd.C_drewN ?_ _)|(with_reducible refine Kd.C_drew ?_)));(case side2=>exact (Kd.S_reads' HO391.out).2.1);rintro e w12 ⟨v393,rfl,ho0,hb⟩;refine ⟨_,rfl,?_⟩;replace HO391:=Aside0.mk (Kd.S_elder' (uS HO391) (Kd.R_base ho0) hb);have HO394:=Aside0.mk (Kd.R_lower ho0 (Qd (vB HB)));replace BK387:=Aside0.mk (Qb (uK BK387) hb);replace HB:=Aside0.mk (Qc (vB HB) hb);(try clear hb ho0)))
  go_ret2
  exact ⟨_,by first|rfl|(simp [Qf,Qg] <;>rfl)|(simp [*,Qf,Qg] <;>rfl),uR HO394,(vB HB)⟩
 ·
  replace c3:=Bool.eq_false_iff.mpr c3;subst c3;rw [if_neg (show ¬ (false=true) by decide)] at H;simp only [Option.some.injEq,Prod.mk.injEq] at H;obtain ⟨rfl,rfl⟩:=H;go_enter Tryz.func37,Tryz.ntmps37;go_wp2_with (first|(refine bE (N:=1) (cs:= #[.slice A0_0 l0_0.length c0_0]) (t:=26) ?_;intro gb387 hg w13 hbox hb;have BK387:=Aside0.mk (hbox);have GW387:=Aside0.mk ((by rw [hg];exact (Qd (uB HB)):w.heap.size≤gb387));have GE387:=GW387;replace HB:=Aside0.mk (Qc (uB HB) hb);clear hb hbox hg;have hcz14_0:=bC BK387;have hfz14_0:=Qe BK387.out 0)|(refine gA (some 5) Tryz.func178 #[.agg #[.slice A0_0 l0_0.length c0_0]] ?_;(with_reducible refine (Qy.calls k _ _ l0_0 false _ (uD HR0_0 HB) HC0_0.out A2.out).mono ?_);rintro e w15 ⟨rfl,hb⟩;refine ⟨_,rfl,?_⟩;replace BK387:=Aside0.mk (Qb (uK BK387) hb);replace HB:=Aside0.mk (Qc (vB HB) hb);(try clear hb)))
  go_ret2
  exact ⟨_,by first|rfl|(simp [Qf,Qg] <;>rfl)|(simp [*,Qf,Qg] <;>rfl),by first|exact Kd.R_nil _ _ _ _ _|exact Kd.N_nil _ _ _ _ _|exact Kd.V_nil _ _ _ _ _|exact Kd.Q_nil _ _ _ _ _|exact Kd.S_nil _ _ _ _ _,(vB HB)⟩
def Qbc.l0 : Nat → List Int → List (List Int) → Int → Int → Option (List Int)
 |0,_,_,_,_=>none
 |k+1,x3,x7,x8,x9=>if x9<x8 then (if 0≤x9 then (if x9<(x7.length:Int) then (if x3.length<17592186044416 then (Qbc.l0 k (x3++ [((Qu x7 x9).length:Int)]) x7 x8 (wrap64 (x9+1))) else (none)) else (none)) else (none)) else (some x3)
def Qbc.f (k : Nat) (l0_0 : List Int) : Option (List Int) := (Qbj.f k l0_0).bind fun t396 => (Qbc.l0 k ([] : List Int) t396 (t396.length : Int) 0)
theorem Qbc.mono_l : ∀ k, (∀ y0 y1 y2 y3, LeO (Qbc.l0 k y0 y1 y2 y3) (Qbc.l0 (k + 1) y0 y1 y2 y3))
 |0=>fun _ _ _ _ r h=>by simp [Qbc.l0] at h
 |k+1=>by
  have ih0:=Qbc.mono_l k
  ·
   intro y0 y1 y2 y3;unfold Qbc.l0
   repeat' first
   |(with_reducible exact ih0 _ _ _ _)
   |(with_reducible exact Qbj.mono _ _)
   |(with_reducible exact LeO.refl _)
   |(with_reducible exact LeO.none _)
   |(with_reducible refine LeO.ite ?_ ?_)
   |(with_reducible refine LeO.bind ?_ (fun _=> ?_))
   |exact ih0 _ _ _ _
   |exact Qbj.mono _ _
   |exact LeO.none _
   |refine LeO.ite ?_ ?_
   |refine LeO.bind ?_ (fun _=> ?_)
theorem Qbc.mono : ∀ a0 k, LeO (Qbc.f k a0) (Qbc.f (k + 1) a0) := by
 intro a0 k;have ih0:=Qbc.mono_l k;unfold Qbc.f
 repeat' (with_reducible first|apply ih0|apply Qbj.mono|exact LeO.refl _|exact LeO.none _|refine LeO.ite ?_ ?_|refine LeO.bind ?_ (fun _=> ?_))
set_option maxHeartbeats 8000000 in
set_option maxRecDepth 100000 in
theorem Qbc.calls (k : Nat) (A0_0 : Option Addr) (c0_0 : Nat) (l0_0 : List Int) (r : List Int) (w : World) (hr0_0 : Kd.C (Kd.int .i64) w A0_0 l0_0.length l0_0) (hc0_0 : l0_0.length ≤ c0_0) (h : Qbc.f k l0_0 = some r) :
 Calls Tryz.prog 186 #[.agg #[.slice A0_0 l0_0.length c0_0]] w fun e w'=> ∃ v0_:Value,e= .returned (v0_)∧Kd.R (Kd.int .i64) 3 w' w.heap.size (fun _=>True) v0_ r∧Below w.heap.size w w':=by
 have hu26:=Tryz.underlying26;have HR0_0:=Aside0.mk hr0_0;have HC0_0:=Aside0.mk hc0_0;clear hr0_0 hc0_0;have HB:=Aside0.mk (Below.refl w.heap.size w);have H:((Qbj.f k l0_0).bind fun t396=>(Qbc.l0 k ([] :List Int) t396 (t396.length:Int) 0))=some r:=h;clear h;obtain ⟨t396,A2,H⟩:=bs H;(try dsimp only at H)
 have H':=Aside0.mk H;clear H;go_enter Tryz.func186,Tryz.ntmps186;go_wp2_with (first|(refine bE (N:=1) (cs:= #[.slice A0_0 l0_0.length c0_0]) (t:=26) ?_;intro gb395 hg w3 hbox hb;have BK395:=Aside0.mk (hbox);have GW395:=Aside0.mk ((by rw [hg];exact (Qd (uB HB)):w.heap.size≤gb395));have GE395:=GW395;replace HB:=Aside0.mk (Qc (uB HB) hb);clear hb hbox hg;have hcz4_0:=bC BK395;have hfz4_0:=Qe BK395.out 0)|(refine gA (some 7) Tryz.func184 #[.agg #[.slice A0_0 l0_0.length c0_0]] ?_;(with_reducible refine (Qbj.calls k _ _ l0_0 t396 _ (uD HR0_0 HB) HC0_0.out A2.out).mono ?_);rintro e w5 ⟨v397,rfl,ho0,hb⟩;refine ⟨_,rfl,?_⟩;have HO398:=Aside0.mk (Kd.S_lower ho0 (Qd (vB HB)));replace BK395:=Aside0.mk (Qb (uK BK395) hb);replace HB:=Aside0.mk (Qc (vB HB) hb);(try clear hb ho0);obtain ⟨Ao6,co6,eo6⟩:=Kd.S_slice HO398.out;subst eo6))
 go_loopg [3,9] k (fun kq v3 v9 w'=> ∃ (x3_1:List Int) (x9_1:Int),v9= .int .i64 x9_1∧Aside0 (Qbc.l0 kq x3_1 t396 (t396.length:Int) x9_1=some r)∧Aside0 (kq≤k)∧Aside0 (Kd.R (Kd.int .i64) 3 w' w.heap.size (fun _=>True) v3 x3_1)∧Aside0 (Kd.S (Kd.slice 3 (Kd.int .i64)) 24 w' w.heap.size (fun k_=>some k_≠(v3:Value).ownBlock) (.slice Ao6 t396.length co6) t396)∧Aside0 (w'.heap[gb395]? =some (.cells #[(.slice A0_0 l0_0.length c0_0)] 26 (0,0)))∧Aside0 (Below w.heap.size w w'))
 case atStart=>exact ⟨(([] :List Int)),(0),(by first|rfl|(simp;done)|(simp [*];done)),H',⟨Nat.le_refl _⟩,⟨by first|exact Kd.R_nil _ _ _ _ _|exact Kd.N_nil _ _ _ _ _|exact Kd.V_nil _ _ _ _ _|exact Kd.Q_nil _ _ _ _ _|exact Kd.S_nil _ _ _ _ _⟩,⟨by (with_reducible repeat (first|apply Kd.S_alloc|apply Kd.S_drewN|apply Kd.S_drew));exact Kd.S_mono HO398.out (fun _ hk=>(by simp [Value.ownBlock]))⟩,⟨uK BK395⟩,⟨(vB HB)⟩⟩
 case round=>
  clear H'
  try clear hcz4_0 hfz4_0
  obtain ⟨x3_1,x9_1,rfl,HA,HK1,HO_3,HO_7,BK395,HB⟩:=hrel;cases gk with
  |zero=>exact absurd HA.out (by simp [Qbc.l0])
  |succ k1=>
   have H:=HA.out;clear HA;simp only [Qbc.l0] at H
   by_cases c7:x9_1<(t396.length:Int)
   ·
    rw [if_pos c7] at H;have c7b0:=decide_eq_true c7;clear c7
    by_cases c8:0≤x9_1
    ·
     rw [if_pos c8] at H;have c8b0:=decide_eq_true c8;clear c8
     by_cases c9:x9_1<(t396.length:Int)
     ·
      rw [if_pos c9] at H;have c9b0:=decide_eq_true c9;clear c9
      by_cases c10:x3_1.length<17592186044416
      ·
       rw [if_pos c10] at H;have LMc10:=Aside0.mk c10;clear c10;obtain ⟨y400,hy400⟩: ∃ y_:List Int,y_=(x3_1++ [((Qu t396 x9_1).length:Int)]):=⟨_,rfl⟩
       replace H:(Qbc.l0 k1 y400 t396 (t396.length:Int) (wrap64 (x9_1+1)))=some r:=by first|(rw [hy400];with_reducible exact H)|(have H2_:=(Option.bind_some _ _).symm.trans H;rw [hy400];with_reducible exact H2_)|(have H2_:=(Option.bind_some _ _).symm.trans H;with_reducible exact H2_)|with_reducible exact H|(rw [hy400];exact H)|exact H
       have Ny400:=Aside0.mk hy400;clear hy400;have H':=Aside0.mk H;clear H;have p399:0≤(x9_1:Int):=of_decide_eq_true (by first|(with_reducible assumption)|assumption);have q399:x9_1<(t396.length:Int):=of_decide_eq_true (by first|(with_reducible assumption)|assumption);obtain ⟨ad399,A399_0,c399_0,e399,hx399_0,hl399_0,hi399_0⟩:=Qfg (Kd.S_reads' HO_7.out).2.2 x9_1 p399 q399;cases e399;obtain ⟨ce399,hce399,hMe399,hcc399⟩:=Kd.S_get HO_7.out [] x9_1 p399 (by first|exact q399|exact of_decide_eq_true (by first|(with_reducible assumption)|assumption)|(have e_:=(Kd.S_reads' HO_7.out).1;omega));obtain ⟨ve399_0,rfl,ge399_0⟩:=hMe399;have hv399_0:=hcc399 0 _ rfl;rw [Nat.add_zero,show ((Kd.slice 3 (Kd.int .i64))).sz=1 from rfl,Nat.mul_one] at hv399_0;replace hv399_0:=Option.some.inj (hv399_0.symm.trans hx399_0);rw [hv399_0] at ge399_0;have HL399_0:=Aside0.mk (show Kd.R (Kd.int .i64) 3 _ _ _ _ (Qu t396 x9_1) from ge399_0);clear hv399_0 ge399_0;clear hcc399 hce399;have HR399_0:=Aside0.mk hi399_0;have HC399_0:=Aside0.mk hl399_0;clear hi399_0 hl399_0;replace p399:=eq_true p399;replace q399:=eq_true q399;go_wp2_with (first|((with_reducible refine Qb5 (b:= .append) (xs:= #[.tmp 13, .tmp 16]) rfl ?_);at_builtin;refine Kd.R_append (Kd.int .i64) (w0:=w) w.heap.size rfl (.tmp 13) (.tmp 16) 24 3 (.int .i64 0) 8 rfl Tryz.underlying24 Qdv rfl (by decide) (by omega) u3 x3_1 ((Qu t396 x9_1).length:Int) [.int .i64 ((Qu t396 x9_1).length:Int)] (fun _=>True) (fun _=>False) rfl rfl ?aP (fun _ hk=>hk.elim) ?aF ?aO ?aB ?aS ?aL ?_;(case aP=>exact rfl);(case aB=>exact (vB HB));(case aF=>exact (fun _ _=>trivial));(case aO=>exact (uR HO_3));(case aS=>exact (Qd (vB HB)));(case aL=>have:=LMc10.out;omega);intro v401 w11 ho hb hg hat;rw [←Ny400.out] at ho;replace HO_7:=Aside0.mk (Kd.S_after (ok:=(fun _=>True)) (by (with_reducible repeat (first|apply Kd.S_alloc|apply Kd.S_drewN|apply Kd.S_drew));exact Kd.S_mono HO_7.out (fun _ hk=>⟨trivial,hk⟩)) hg hat);replace BK395:=Aside0.mk (Qdq (uK BK395) hg (Kd.R_ne HO_3.out BK395.out (by decide)));replace HL399_0:=Aside0.mk (Kd.R_after (ok:=(fun k_=>some k_≠(.slice (some ad399) t396.length co6:Value).ownBlock)) (Kd.R_mono (uR HL399_0) (fun _ hk=>⟨hk.2,hk.1⟩)) hg hat);replace HB:=Aside0.mk (hb);have HO402:=Aside0.mk (ho);clear HO_3;clear ho hb hg hat));go_roundg k1
       case measure=>have:=HK1.out;omega
       case rel=>exact ⟨(y400),(wrap64 (x9_1+1)),(by first|rfl|(simp;done)|(simp [*];done)),H',⟨by have:=HK1.out;omega⟩,⟨uR HO402⟩,⟨by (with_reducible repeat (first|apply Kd.S_alloc|apply Kd.S_drewN|apply Kd.S_drew));exact Kd.S_mono HO_7.out (fun _ hk=>hk.2)⟩,⟨uK BK395⟩,⟨(vB HB)⟩⟩
      ·
       rw [if_neg c10] at H;exact absurd H (by simp)
     ·
      rw [if_neg c9] at H;exact absurd H (by simp)
    ·
     rw [if_neg c8] at H;exact absurd H (by simp)
   ·
    rw [if_neg c7] at H;have c7b0:=decide_eq_false c7;clear c7;obtain rfl:=Option.some.inj H;go_wp2
    go_ret
    exact ⟨_,by first|rfl|(simp [Qf,Qg] <;>rfl)|(simp [*,Qf,Qg] <;>rfl),uR HO_3,(vB HB)⟩
def Qcr.f (k : Nat) (l0_0 : List Int) : Option (List Int × Bool) := (Qn.f k l0_0).bind fun t404 => (if t404 = true then ((Qbc.f k l0_0).bind fun t405 => (some (t405, true))) else (some (([] : List Int), false)))
theorem Qcr.mono : ∀ a0 k, LeO (Qcr.f k a0) (Qcr.f (k + 1) a0) := by
 intro a0 k;unfold Qcr.f
 repeat' (with_reducible first|apply Qbc.mono|apply Qn.mono|exact LeO.refl _|exact LeO.none _|refine LeO.ite ?_ ?_|refine LeO.bind ?_ (fun _=> ?_))
set_option maxHeartbeats 8000000 in
set_option maxRecDepth 100000 in
theorem Qcr.calls (k : Nat) (A0_0 : Option Addr) (c0_0 : Nat) (l0_0 : List Int) (r1 : List Int) (r2 : Bool) (w : World) (hr0_0 : Kd.C (Kd.int .i64) w A0_0 l0_0.length l0_0) (hc0_0 : l0_0.length ≤ c0_0) (h : Qcr.f k l0_0 = some (r1, r2)) :
 Calls Tryz.prog 38 #[.agg #[.slice A0_0 l0_0.length c0_0]] w fun e w'=> ∃ v0_:Value,e= .returned (.tuple #[v0_, .bool r2])∧Kd.R (Kd.int .i64) 3 w' w.heap.size (fun _=>True) v0_ r1∧Below w.heap.size w w':=by
 have hu26:=Tryz.underlying26;have HR0_0:=Aside0.mk hr0_0;have HC0_0:=Aside0.mk hc0_0;clear hr0_0 hc0_0;have HB:=Aside0.mk (Below.refl w.heap.size w);have H:((Qn.f k l0_0).bind fun t404=>(if t404=true then ((Qbc.f k l0_0).bind fun t405=>(some (t405,true))) else (some (([] :List Int),false))))=some (r1,r2):=h;clear h;obtain ⟨t404,A2,H⟩:=bs H;(try dsimp only at H)
 by_cases c3:t404=true
 ·
  subst c3;rw [if_pos rfl] at H;obtain ⟨t405,A4,H⟩:=bs H;(try dsimp only at H)
  simp only [Option.some.injEq,Prod.mk.injEq] at H;obtain ⟨rfl,rfl⟩:=H;go_enter Tryz.func38,Tryz.ntmps38;go_wp2_with (first|(refine bE (N:=1) (cs:= #[.slice A0_0 l0_0.length c0_0]) (t:=26) ?_;intro gb403 hg w5 hbox hb;have BK403:=Aside0.mk (hbox);have GW403:=Aside0.mk ((by rw [hg];exact (Qd (uB HB)):w.heap.size≤gb403));have GE403:=GW403;replace HB:=Aside0.mk (Qc (uB HB) hb);clear hb hbox hg;have hcz6_0:=bC BK403;have hfz6_0:=Qe BK403.out 0)|(refine gA (some 5) Tryz.func183 #[.agg #[.slice A0_0 l0_0.length c0_0]] ?_;(with_reducible refine (Qn.calls k _ _ l0_0 true _ (uD HR0_0 HB) HC0_0.out A2.out).mono ?_);rintro e w7 ⟨rfl,hb⟩;refine ⟨_,rfl,?_⟩;replace BK403:=Aside0.mk (Qb (uK BK403) hb);replace HB:=Aside0.mk (Qc (vB HB) hb);(try clear hb);have hcz8_0:=bC BK403;have hfz8_0:=Qe BK403.out 0)|(refine gA (some 8) Tryz.func186 #[.agg #[.slice A0_0 l0_0.length c0_0]] ?_;(with_reducible refine (Qbc.calls k _ _ l0_0 t405 _ (uD HR0_0 HB) HC0_0.out A4.out).mono ?_);rintro e w9 ⟨v406,rfl,ho0,hb⟩;refine ⟨_,rfl,?_⟩;have HO407:=Aside0.mk (Kd.R_lower ho0 (Qd (vB HB)));replace BK403:=Aside0.mk (Qb (uK BK403) hb);replace HB:=Aside0.mk (Qc (vB HB) hb);(try clear hb ho0)))
  go_ret2
  exact ⟨_,by first|rfl|(simp [Qf,Qg] <;>rfl)|(simp [*,Qf,Qg] <;>rfl),uR HO407,(vB HB)⟩
 ·
  replace c3:=Bool.eq_false_iff.mpr c3;subst c3;rw [if_neg (show ¬ (false=true) by decide)] at H;simp only [Option.some.injEq,Prod.mk.injEq] at H;obtain ⟨rfl,rfl⟩:=H;go_enter Tryz.func38,Tryz.ntmps38;go_wp2_with (first|(refine bE (N:=1) (cs:= #[.slice A0_0 l0_0.length c0_0]) (t:=26) ?_;intro gb403 hg w10 hbox hb;have BK403:=Aside0.mk (hbox);have GW403:=Aside0.mk ((by rw [hg];exact (Qd (uB HB)):w.heap.size≤gb403));have GE403:=GW403;replace HB:=Aside0.mk (Qc (uB HB) hb);clear hb hbox hg;have hcz11_0:=bC BK403;have hfz11_0:=Qe BK403.out 0)|(refine gA (some 5) Tryz.func183 #[.agg #[.slice A0_0 l0_0.length c0_0]] ?_;(with_reducible refine (Qn.calls k _ _ l0_0 false _ (uD HR0_0 HB) HC0_0.out A2.out).mono ?_);rintro e w12 ⟨rfl,hb⟩;refine ⟨_,rfl,?_⟩;replace BK403:=Aside0.mk (Qb (uK BK403) hb);replace HB:=Aside0.mk (Qc (vB HB) hb);(try clear hb)))
  go_ret2
  exact ⟨_,by first|rfl|(simp [Qf,Qg] <;>rfl)|(simp [*,Qf,Qg] <;>rfl),by first|exact Kd.R_nil _ _ _ _ _|exact Kd.N_nil _ _ _ _ _|exact Kd.V_nil _ _ _ _ _|exact Kd.Q_nil _ _ _ _ _|exact Kd.S_nil _ _ _ _ _,(vB HB)⟩
end Go.Proofs.YtkgngggppcmpfaaGreat.L
end
section
namespace Go.Proofs.YtkgngggppcmpfaaGreat.L
open Go.RowKit Go.Proofs.YtkgngggppcmpfaaGreatW.PrintWords Go.Proofs.YtkgngggppcmpfaaGreatW.PrintLast Go.Proofs.YtkgngggppcmpfaaGreatW.PrintMore
attribute [local go_sem] Q2 Q4 Qbd Qbe Qz Q0 Q3 Q5
set_option linter.unusedVariables false
set_option linter.unusedSimpArgs false
def Qcv.l0 : Nat → Int → Int → Option (Int)
 |0,_,_=>none
 |k+1,x0,x1=>if x1=0 then (some x0) else (Qcv.l0 k x1 (Int.tmod x0 x1))
def Qcv.f (k : Nat) (a0 : Int) (a1 : Int) : Option (Int) := Qcv.l0 k a0 a1
theorem Qcv.mono_l : ∀ k, (∀ y0 y1, LeO (Qcv.l0 k y0 y1) (Qcv.l0 (k + 1) y0 y1))
 |0=>fun _ _ r h=>by simp [Qcv.l0] at h
 |k+1=>by
  have ih0:=Qcv.mono_l k
  ·
   intro y0 y1;unfold Qcv.l0
   repeat' first
   |(with_reducible exact ih0 _ _)
   |(with_reducible exact LeO.refl _)
   |(with_reducible exact LeO.none _)
   |(with_reducible refine LeO.ite ?_ ?_)
   |(with_reducible refine LeO.bind ?_ (fun _=> ?_))
   |exact ih0 _ _
   |exact LeO.none _
   |refine LeO.ite ?_ ?_
   |refine LeO.bind ?_ (fun _=> ?_)
theorem Qcv.mono : ∀ a0 a1 k, LeO (Qcv.f k a0 a1) (Qcv.f (k + 1) a0 a1) := by
 intro a0 a1 k;have ih0:=Qcv.mono_l k;unfold Qcv.f
 repeat' (with_reducible first|apply ih0|exact LeO.refl _|exact LeO.none _|refine LeO.ite ?_ ?_|refine LeO.bind ?_ (fun _=> ?_))
set_option maxHeartbeats 8000000 in
set_option maxRecDepth 100000 in
theorem Qcv.calls (k : Nat) (a0 : Int) (a1 : Int) (r : Int) (w : World) (h : Qcv.f k a0 a1 = some r) :
 Calls Tryz.prog 219 #[.int .i64 a0, .int .i64 a1] w fun e w'=>e= .returned (.int .i64 r)∧Drawn0 w w':=by
 have H:(Qcv.l0 k a0 a1)=some r:=h;clear h;have H':=Aside0.mk H;clear H;go_enter Tryz.func219,Tryz.ntmps219;go_wp2
 repeat (go_quiet (fail);try go_wp2)
 go_loopg [0,1] k (fun kq v0 v1 w'=> ∃ (x0_1:Int) (x1_1:Int),v0= .int .i64 x0_1∧v1= .int .i64 x1_1∧Aside0 (Qcv.l0 kq x0_1 x1_1=some r)∧Aside0 (kq≤k)∧Drawn0 w w')
 case atStart=>exact ⟨(a0),(a1),(by first|rfl|(simp;done)|(simp [*];done)),(by first|rfl|(simp;done)|(simp [*];done)),H',⟨Nat.le_refl _⟩,by repeat (first|exact Drawn0.refl _|apply Drawn0.step)⟩
 case round=>
  clear H'
  skip
  obtain ⟨x0_1,x1_1,rfl,rfl,HA,HK1,⟨m1,rfl⟩⟩:=hrel;cases gk with
  |zero=>exact absurd HA.out (by simp [Qcv.l0])
  |succ k1=>
   have H:=HA.out;clear HA;simp only [Qcv.l0] at H
   by_cases c3:x1_1=0
   ·
    rw [if_pos c3] at H;have c3b0:(x1_1==0)=true:=beq_iff_eq.mpr c3;have c3b1:(x1_1 !=0)=false:=bne_eq_false_iff_eq.mpr c3;clear c3;obtain rfl:=Option.some.inj H;go_wp2
    repeat (go_quiet (fail);try go_wp2)
    go_ret
    exact ⟨by first|rfl|(simp;done)|(simp [*];done),by repeat (first|exact Drawn0.refl _|apply Drawn0.step)⟩
   ·
    rw [if_neg c3] at H;have c3b0:(x1_1==0)=false:=beq_eq_false_iff_ne.mpr c3;have c3b1:(x1_1 !=0)=true:=bne_iff_ne.mpr c3;have H':=Aside0.mk H;clear H;go_wp2
    repeat (go_quiet (fail);try go_wp2)
    go_roundg k1
    case measure=>have:=HK1.out;omega
    case rel=>exact ⟨(x1_1),(Int.tmod x0_1 x1_1),(by first|rfl|(simp;done)|(simp [*];done)),(by first|rfl|(simp;done)|(simp [*];done)),H',⟨by have:=HK1.out;omega⟩,by repeat (first|exact Drawn0.refl _|apply Drawn0.step)⟩
end Go.Proofs.YtkgngggppcmpfaaGreat.L
end
section
namespace Go.Proofs.YtkgngggppcmpfaaGreat.L
open Go.RowKit Go.Proofs.YtkgngggppcmpfaaGreatW.PrintWords Go.Proofs.YtkgngggppcmpfaaGreatW.PrintLast Go.Proofs.YtkgngggppcmpfaaGreatW.PrintMore Go.Proofs.YtkgngggppcmpfaaGreat.X
attribute [local go_sem] Q2 Q4 Qbd Qbe Qz Q0 Q3 Q5
set_option linter.unusedVariables false
set_option linter.unusedSimpArgs false
def Qcg.l0 : Nat → Int → Int → List Int → Int → Int → Option (Int × Bool)
 |0,_,_,_,_,_=>none
 |k+1,x1,x6,x9,x10,x11=>if x11<x10 then (if 0≤x11 then (if x11<(x9.length:Int) then ((Qcv.f k x6 (rd x9 x11)).bind fun t409=>(if t409=0 then (none) else (if (wrap64 (Int.tdiv (rd x9 x11) t409))=0 then (none) else (if x6>(wrap64 (Int.tdiv x1 (wrap64 (Int.tdiv (rd x9 x11) t409)))) then (some (0,false)) else (Qcg.l0 k x1 (wrap64 (x6*(wrap64 (Int.tdiv (rd x9 x11) t409)))) x9 x10 (wrap64 (x11+1))))))) else (none)) else (none)) else (some (x6,true))
def Qcg.f (k : Nat) (l0 : List Int) (a1 : Int) : Option (Int × Bool) := Qcg.l0 k a1 1 l0 (l0.length : Int) 0
theorem Qcg.mono_l : ∀ k, (∀ y0 y1 y2 y3 y4, LeO (Qcg.l0 k y0 y1 y2 y3 y4) (Qcg.l0 (k + 1) y0 y1 y2 y3 y4))
 |0=>fun _ _ _ _ _ r h=>by simp [Qcg.l0] at h
 |k+1=>by
  have ih0:=Qcg.mono_l k
  ·
   intro y0 y1 y2 y3 y4;unfold Qcg.l0
   repeat' first
   |(with_reducible exact ih0 _ _ _ _ _)
   |(with_reducible exact Qcv.mono _ _ _)
   |(with_reducible exact LeO.refl _)
   |(with_reducible exact LeO.none _)
   |(with_reducible refine LeO.ite ?_ ?_)
   |(with_reducible refine LeO.bind ?_ (fun _=> ?_))
   |exact ih0 _ _ _ _ _
   |exact Qcv.mono _ _ _
   |exact LeO.none _
   |refine LeO.ite ?_ ?_
   |refine LeO.bind ?_ (fun _=> ?_)
theorem Qcg.mono : ∀ a0 a1 k, LeO (Qcg.f k a0 a1) (Qcg.f (k + 1) a0 a1) := by
 intro a0 a1 k;have ih0:=Qcg.mono_l k;unfold Qcg.f
 repeat' (with_reducible first|apply ih0|apply Qcv.mono|exact LeO.refl _|exact LeO.none _|refine LeO.ite ?_ ?_|refine LeO.bind ?_ (fun _=> ?_))
set_option maxHeartbeats 8000000 in
set_option maxRecDepth 100000 in
theorem Qcg.calls (k : Nat) (A0 : Option Addr) (c0 : Nat) (l0 : List Int) (a1 : Int) (r1 : Int) (r2 : Bool) (w : World) (hr0 : Kd.C (Kd.int .i64) w A0 l0.length l0) (hc0 : l0.length ≤ c0) (h : Qcg.f k l0 a1 = some (r1, r2)) :
 Calls Tryz.prog 187 #[.slice A0 l0.length c0, .int .i64 a1] w fun e w'=>e= .returned (.tuple #[.int .i64 r1, .bool r2])∧Drawn0 w w':=by
 have HR0:=Aside0.mk hr0;have HC0:=Aside0.mk hc0;clear hr0 hc0;have H:(Qcg.l0 k a1 1 l0 (l0.length:Int) 0)=some (r1,r2):=h;clear h;have H':=Aside0.mk H;clear H;go_enter Tryz.func187,Tryz.ntmps187;go_wp2
 go_loopg [6,11] k (fun kq v6 v11 w'=> ∃ (x6_1:Int) (x11_1:Int),v6= .int .i64 x6_1∧v11= .int .i64 x11_1∧Aside0 (Qcg.l0 kq a1 x6_1 l0 (l0.length:Int) x11_1=some (r1,r2))∧Aside0 (kq≤k)∧Drawn0 w w')
 case atStart=>exact ⟨(1),(0),(by first|rfl|(simp;done)|(simp [*];done)),(by first|rfl|(simp;done)|(simp [*];done)),H',⟨Nat.le_refl _⟩,by repeat (first|exact Drawn0.refl _|apply Drawn0.step)⟩
 case round=>
  clear H'
  skip
  obtain ⟨x6_1,x11_1,rfl,rfl,HA,HK1,⟨m1,rfl⟩⟩:=hrel;cases gk with
  |zero=>exact absurd HA.out (by simp [Qcg.l0])
  |succ k1=>
   have H:=HA.out;clear HA;simp only [Qcg.l0] at H
   by_cases c3:x11_1<(l0.length:Int)
   ·
    rw [if_pos c3] at H;have c3b0:=decide_eq_true c3;clear c3
    by_cases c4:0≤x11_1
    ·
     rw [if_pos c4] at H;have c4b0:=decide_eq_true c4;clear c4
     by_cases c5:x11_1<(l0.length:Int)
     ·
      rw [if_pos c5] at H;have c5b0:=decide_eq_true c5;clear c5;obtain ⟨t409,A6,H⟩:=bs H;(try dsimp only at H)
      by_cases c7:t409=0
      ·
       rw [if_pos c7] at H;exact absurd H (by simp)
      ·
       rw [if_neg c7] at H;have c7b0:(t409==0)=false:=beq_eq_false_iff_ne.mpr c7;have c7b1:(t409 !=0)=true:=bne_iff_ne.mpr c7
       by_cases c8:(wrap64 (Int.tdiv (rd l0 x11_1) t409))=0
       ·
        rw [if_pos c8] at H;exact absurd H (by simp)
       ·
        rw [if_neg c8] at H;have c8b0:((wrap64 (Int.tdiv (rd l0 x11_1) t409))==0)=false:=beq_eq_false_iff_ne.mpr c8;have c8b1:((wrap64 (Int.tdiv (rd l0 x11_1) t409)) !=0)=true:=bne_iff_ne.mpr c8
        by_cases c9:x6_1>(wrap64 (Int.tdiv a1 (wrap64 (Int.tdiv (rd l0 x11_1) t409))))
        ·
         rw [if_pos c9] at H;have c9b0:=decide_eq_true c9;clear c9;simp only [Option.some.injEq,Prod.mk.injEq] at H;obtain ⟨rfl,rfl⟩:=H;have p408:0≤(x11_1:Int):=of_decide_eq_true (by first|(with_reducible assumption)|assumption);have q408:x11_1<(l0.length:Int):=of_decide_eq_true (by first|(with_reducible assumption)|assumption);obtain ⟨ad408,e408,hx408_0⟩:=Kd.at_int HR0.out x11_1 p408 q408;cases e408;replace p408:=eq_true p408;replace q408:=eq_true q408;go_wp2_with (first|(refine gA (some 18) Tryz.func219 #[.int .i64 x6_1, .int .i64 (rd l0 x11_1)] ?_;(with_reducible refine (Qcv.calls k1 x6_1 (rd l0 x11_1) t409 _ A6.out).mono ?_);rintro e w' ⟨rfl,⟨nd,rfl⟩⟩;refine ⟨_,rfl,?_⟩))
         go_ret2
         exact ⟨by first|rfl|(simp;done)|(simp [*];done),by repeat (first|exact Drawn0.refl _|apply Drawn0.step)⟩
        ·
         rw [if_neg c9] at H;have c9b0:=decide_eq_false c9;clear c9;have H':=Aside0.mk H;clear H;have p408:0≤(x11_1:Int):=of_decide_eq_true (by first|(with_reducible assumption)|assumption);have q408:x11_1<(l0.length:Int):=of_decide_eq_true (by first|(with_reducible assumption)|assumption);obtain ⟨ad408,e408,hx408_0⟩:=Kd.at_int HR0.out x11_1 p408 q408;cases e408;replace p408:=eq_true p408;replace q408:=eq_true q408;go_wp2_with (first|(refine gA (some 18) Tryz.func219 #[.int .i64 x6_1, .int .i64 (rd l0 x11_1)] ?_;(with_reducible refine (Qcv.calls k1 x6_1 (rd l0 x11_1) t409 _ A6.out).mono ?_);rintro e w' ⟨rfl,⟨nd,rfl⟩⟩;refine ⟨_,rfl,?_⟩));go_roundg k1
         case measure=>have:=HK1.out;omega
         case rel=>exact ⟨(wrap64 (x6_1*(wrap64 (Int.tdiv (rd l0 x11_1) t409)))),(wrap64 (x11_1+1)),(by first|rfl|(simp;done)|(simp [*];done)),(by first|rfl|(simp;done)|(simp [*];done)),H',⟨by have:=HK1.out;omega⟩,by repeat (first|exact Drawn0.refl _|apply Drawn0.step)⟩
     ·
      rw [if_neg c5] at H;exact absurd H (by simp)
    ·
     rw [if_neg c4] at H;exact absurd H (by simp)
   ·
    rw [if_neg c3] at H;have c3b0:=decide_eq_false c3;clear c3;simp only [Option.some.injEq,Prod.mk.injEq] at H;obtain ⟨rfl,rfl⟩:=H;go_wp2
    go_ret2
    exact ⟨by first|rfl|(simp;done)|(simp [*];done),by repeat (first|exact Drawn0.refl _|apply Drawn0.step)⟩
end Go.Proofs.YtkgngggppcmpfaaGreat.L
end
