/- Laws about the given program: a part of the walk of the law FnNumbersToggled; no condition is added to the given statement. -/
import Derived.Test.YtkgngggppcmpfaaKSP0
section
namespace Go.Proofs.Ytkgngggppcmpfaa.L
open Go.RowKit Go.Proofs.YtkgngggppcmpfaaW.PrintWords Go.Proofs.YtkgngggppcmpfaaW.PrintLast Go.Proofs.YtkgngggppcmpfaaW.PrintMore Go.Proofs.Ytkgngggppcmpfaa.X
attribute [local go_sem] max2_int min2_int max_two min_two max_three min_three max_four min_four
set_option linter.unusedVariables false
set_option linter.unusedSimpArgs false
set_option maxHeartbeats 80000000 in
set_option maxRecDepth 100000 in
noncomputable def laws_FnNumbersToggled.part55 : PSigma fun G55 : Prop=>(Aside0 (Aside0 (Aside0 G55)) → laws_FnNumbersToggled.part21.1):=by
 apply PSigma.mk
 case snd=>
  intro hG55
  intros _ _ _ _ _ _ k A0 c0 l0 A1 c1 l1 r w hu26 HR0 HC0 HR1 HC1 H A3 H t626 t629 t632 t633 A5 H t635 t638 A6 H t639 t642 A7 H t643 t644 t645 A8 H t646 t647 t648 A9 HC10 _ w11 gb634 w12 GW634 GE634 Ao13 co13 hcz14_0 hfz14_0 Ao15 co15 w16 v636 hcz17_0 hfz17_0 w18 v640 hcz19_0 hfz19_0 w20 hcz21_0 hfz21_0 w22 HO628 HO631 HO637 HO641 BK634 HB _ _ _
  have H:=HC10.out;clear HC10
  by_cases c23:(t638 !=t642)=true
  ·
   (try clear hG55)
   rw [if_pos c23] at H;have c23b0:(t638 !=t642)=true:=c23
   (try (have c23b1:decide (t638=t642)=false:=by simpa using c23))
   (try (have c23b2:(t638==t642)=false:=by simpa using c23))
   (try (have c23b3: ¬ (t638=t642):=by simpa using c23))
   clear c23
   (first|rw [c23b0] |(simp only [i64_w,i32_w];rw [c23b0])|skip)
   have H':=Aside0.mk H;clear H;go_wp2
   go_meet
   case rel=>exact ⟨_,(true),(by first|rfl|(simp;done)|(simp [*];done)),H',⟨by first|omega|exact Nat.le_refl _⟩,⟨Kd.R_mono (uR HO631) (fun _ hk=>⟨hk.1.2,hk.1.1⟩)⟩,⟨Kd.R_mono (uR HO637) (fun _ hk=>⟨hk.1.2,hk.1.1.2⟩)⟩,⟨Kd.R_mono (uR HO628) (fun _ hk=>⟨hk.1.1,hk.1.2⟩)⟩,⟨uK BK634⟩,⟨(vB HB)⟩⟩
  ·
   rw [if_neg c23] at H;have c23b0:(t638 !=t642)=false:=by simpa using c23
   (try (have c23b1:decide (t638=t642)=true:=by simpa using c23))
   (try (have c23b2:(t638==t642)=true:=by simpa using c23))
   clear c23
   (first|rw [c23b0] |(simp only [i64_w,i32_w];rw [c23b0])|skip)
   obtain ⟨t649,A24,H⟩:=bs H;(try dsimp only at H)
   by_cases c25:t649=true
   ·
    subst c25;rw [if_pos rfl] at H
    by_cases c26:(t645 !=t648)=true
    ·
     (try clear hG55)
     rw [if_pos c26] at H;have c26b0:(t645 !=t648)=true:=c26
     (try (have c26b1:decide (t645=t648)=false:=by simpa using c26))
     (try (have c26b2:(t645==t648)=false:=by simpa using c26))
     (try (have c26b3: ¬ (t645=t648):=by simpa using c26))
     clear c26;have H':=Aside0.mk H;clear H;obtain ⟨Ao27,co27,eo27⟩:=Kd.R_slice HO637.out;subst eo27;obtain ⟨Ao28,co28,eo28⟩:=Kd.R_slice HO641.out;subst eo28
     go_wp2_with (first|(go_at_call 12;(with_reducible refine (laws_nSame.calls k _ _ t635 _ _ t639 true _ (uE HO637) ?side2 (uE HO641) ?side4 A24.out).mono ?_);(case side2=>exact (Kd.R_reads' HO637.out).2.1);(case side4=>exact (Kd.R_reads' HO641.out).2.1);rintro e w' ⟨rfl,⟨nd,rfl⟩⟩))
     go_meet
     case rel=>exact ⟨_,(true),(by first|rfl|(simp;done)|(simp [*];done)),H',⟨by first|omega|exact Nat.le_refl _⟩,⟨Kd.R_mono (uR HO631) (fun _ hk=>⟨hk.1.2,hk.1.1⟩)⟩,⟨Kd.R_mono (uR HO637) (fun _ hk=>⟨hk.1.2,hk.1.1.2⟩)⟩,⟨Kd.R_mono (uR HO628) (fun _ hk=>⟨hk.1.1,hk.1.2⟩)⟩,⟨uK BK634⟩,⟨(vB HB)⟩⟩
    ·
     revert w22 w20 v640 w18 v636 w16 co15 Ao15 co13 Ao13 w12 gb634 hcz14_0 hfz14_0 hfz17_0 hfz19_0 hfz21_0 w11 t648 t647 t646 t645 c26 t644 t643 t642 t639 t638 c23b0 c23b1 c23b2 t635 t633 t632 t629 t626 hcz17_0 hcz19_0 hcz21_0 BK634 hu26 w GW634 GE634 HO628 HO631 HO637 HO641 HB r l1 c1 HC1 A1 HR1 l0 A3 c0 HC0 A0 HR0 k H A5 A6 A7 A8 A9 A24
     repeat (rename_i z_;revert z_)
     (repeat revert H)
     repeat (rename_i z_;revert z_)
     exact hG55.out.out.out
   ·
    (try clear hG55)
    replace c25:=Bool.eq_false_iff.mpr c25;subst c25;rw [if_neg (show ¬ (false=true) by decide)] at H;have H':=Aside0.mk H;clear H;obtain ⟨Ao37,co37,eo37⟩:=Kd.R_slice HO637.out;subst eo37;obtain ⟨Ao38,co38,eo38⟩:=Kd.R_slice HO641.out;subst eo38
    go_wp2_with (first|(go_at_call 12;(with_reducible refine (laws_nSame.calls k _ _ t635 _ _ t639 false _ (uE HO637) ?side2 (uE HO641) ?side4 A24.out).mono ?_);(case side2=>exact (Kd.R_reads' HO637.out).2.1);(case side4=>exact (Kd.R_reads' HO641.out).2.1);rintro e w' ⟨rfl,⟨nd,rfl⟩⟩))
    go_meet
    case rel=>exact ⟨_,(true),(by first|rfl|(simp;done)|(simp [*];done)),H',⟨by first|omega|exact Nat.le_refl _⟩,⟨Kd.R_mono (uR HO631) (fun _ hk=>⟨hk.1.2,hk.1.1⟩)⟩,⟨Kd.R_mono (uR HO637) (fun _ hk=>⟨hk.1.2,hk.1.1.2⟩)⟩,⟨Kd.R_mono (uR HO628) (fun _ hk=>⟨hk.1.1,hk.1.2⟩)⟩,⟨uK BK634⟩,⟨(vB HB)⟩⟩
end Go.Proofs.Ytkgngggppcmpfaa.L
end
