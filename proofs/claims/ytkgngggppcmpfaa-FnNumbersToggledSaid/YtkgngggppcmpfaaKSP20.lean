/- Laws about the given program: a part of the walk of the law FnNumbersToggled; no condition is added to the given statement. -/
import Derived.Test.YtkgngggppcmpfaaKSP1
section
namespace Go.Proofs.Ytkgngggppcmpfaa.L
open Go.RowKit Go.Proofs.YtkgngggppcmpfaaW.PrintWords Go.Proofs.YtkgngggppcmpfaaW.PrintLast Go.Proofs.YtkgngggppcmpfaaW.PrintMore Go.Proofs.Ytkgngggppcmpfaa.X
attribute [local go_sem] max2_int min2_int max_two min_two max_three min_three max_four min_four
set_option linter.unusedVariables false
set_option linter.unusedSimpArgs false
set_option maxHeartbeats 80000000 in
set_option maxRecDepth 100000 in
theorem laws_FnNumbersToggled.last55 : laws_FnNumbersToggled.part55.1:=by
 intros _ _ _ _ _ _ k A0 c0 l0 A1 c1 l1 r w hu26 HR0 HC0 HR1 HC1 H A3 H t626 t629 t632 t633 A5 H t635 t638 A6 H t639 t642 A7 H t643 t644 t645 A8 H t646 t647 t648 A9 _ w11 gb634 w12 GW634 GE634 Ao13 co13 hcz14_0 hfz14_0 Ao15 co15 w16 v636 hcz17_0 hfz17_0 w18 v640 hcz19_0 hfz19_0 w20 hcz21_0 hfz21_0 w22 HO628 HO631 HO637 HO641 BK634 HB _ _ _ H c23b0 c23b1 c23b2 A24 H c26
 rw [if_neg c26] at H;have c26b0:(t645 !=t648)=false:=by simpa using c26
 (try (have c26b1:decide (t645=t648)=true:=by simpa using c26))
 (try (have c26b2:(t645==t648)=true:=by simpa using c26))
 clear c26
 by_cases c29:t643=t646
 ·
  rw [if_pos c29] at H;have c29b0:(t643==t646)=true:=beq_iff_eq.mpr c29;have c29b1:(t643 !=t646)=false:=bne_eq_false_iff_eq.mpr c29;clear c29
  by_cases c30:t644=t647
  ·
   rw [if_pos c30] at H;have c30b0:(t644==t647)=true:=beq_iff_eq.mpr c30;have c30b1:(t644 !=t647)=false:=bne_eq_false_iff_eq.mpr c30;clear c30;have H':=Aside0.mk H;clear H;obtain ⟨Ao31,co31,eo31⟩:=Kd.R_slice HO637.out;subst eo31;obtain ⟨Ao32,co32,eo32⟩:=Kd.R_slice HO641.out;subst eo32
   ·
    go_wp2_with (first|(go_at_call 12;(with_reducible refine (laws_nSame.calls k _ _ t635 _ _ t639 true _ (uE HO637) ?side2 (uE HO641) ?side4 A24.out).mono ?_);(case side2=>exact (Kd.R_reads' HO637.out).2.1);(case side4=>exact (Kd.R_reads' HO641.out).2.1);rintro e w' ⟨rfl,⟨nd,rfl⟩⟩))
    go_meet
    case rel=>exact ⟨_,((t645 !=t638)),(by first|rfl|(simp;done)|(simp [*];done)),H',⟨by first|omega|exact Nat.le_refl _⟩,⟨Kd.R_mono (uR HO631) (fun _ hk=>⟨hk.1.2,hk.1.1⟩)⟩,⟨Kd.R_mono (uR HO637) (fun _ hk=>⟨hk.1.2,hk.1.1.2⟩)⟩,⟨Kd.R_mono (uR HO628) (fun _ hk=>⟨hk.1.1,hk.1.2⟩)⟩,⟨uK BK634⟩,⟨(vB HB)⟩⟩
  ·
   rw [if_neg c30] at H;have c30b0:(t644==t647)=false:=beq_eq_false_iff_ne.mpr c30;have c30b1:(t644 !=t647)=true:=bne_iff_ne.mpr c30;have H':=Aside0.mk H;clear H;obtain ⟨Ao33,co33,eo33⟩:=Kd.R_slice HO637.out;subst eo33;obtain ⟨Ao34,co34,eo34⟩:=Kd.R_slice HO641.out;subst eo34
   go_wp2_with (first|(go_at_call 12;(with_reducible refine (laws_nSame.calls k _ _ t635 _ _ t639 true _ (uE HO637) ?side2 (uE HO641) ?side4 A24.out).mono ?_);(case side2=>exact (Kd.R_reads' HO637.out).2.1);(case side4=>exact (Kd.R_reads' HO641.out).2.1);rintro e w' ⟨rfl,⟨nd,rfl⟩⟩))
   go_meet
   case rel=>exact ⟨_,(true),(by first|rfl|(simp;done)|(simp [*];done)),H',⟨by first|omega|exact Nat.le_refl _⟩,⟨Kd.R_mono (uR HO631) (fun _ hk=>⟨hk.1.2,hk.1.1⟩)⟩,⟨Kd.R_mono (uR HO637) (fun _ hk=>⟨hk.1.2,hk.1.1.2⟩)⟩,⟨Kd.R_mono (uR HO628) (fun _ hk=>⟨hk.1.1,hk.1.2⟩)⟩,⟨uK BK634⟩,⟨(vB HB)⟩⟩
 ·
  rw [if_neg c29] at H;have c29b0:(t643==t646)=false:=beq_eq_false_iff_ne.mpr c29;have c29b1:(t643 !=t646)=true:=bne_iff_ne.mpr c29;have H':=Aside0.mk H;clear H;obtain ⟨Ao35,co35,eo35⟩:=Kd.R_slice HO637.out;subst eo35;obtain ⟨Ao36,co36,eo36⟩:=Kd.R_slice HO641.out;subst eo36
  go_wp2_with (first|(go_at_call 12;(with_reducible refine (laws_nSame.calls k _ _ t635 _ _ t639 true _ (uE HO637) ?side2 (uE HO641) ?side4 A24.out).mono ?_);(case side2=>exact (Kd.R_reads' HO637.out).2.1);(case side4=>exact (Kd.R_reads' HO641.out).2.1);rintro e w' ⟨rfl,⟨nd,rfl⟩⟩))
  go_meet
  case rel=>exact ⟨_,(true),(by first|rfl|(simp;done)|(simp [*];done)),H',⟨by first|omega|exact Nat.le_refl _⟩,⟨Kd.R_mono (uR HO631) (fun _ hk=>⟨hk.1.2,hk.1.1⟩)⟩,⟨Kd.R_mono (uR HO637) (fun _ hk=>⟨hk.1.2,hk.1.1.2⟩)⟩,⟨Kd.R_mono (uR HO628) (fun _ hk=>⟨hk.1.1,hk.1.2⟩)⟩,⟨uK BK634⟩,⟨(vB HB)⟩⟩
end Go.Proofs.Ytkgngggppcmpfaa.L
end
