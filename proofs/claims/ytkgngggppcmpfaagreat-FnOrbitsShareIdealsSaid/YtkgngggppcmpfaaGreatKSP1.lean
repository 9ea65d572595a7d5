/- Laws about the given program: a part of the walk of the law FnOrbitsShareIdeals; no condition is added to the given statement. -/
import Derived.Test.YtkgngggppcmpfaaGreatKSP0
section
namespace Go.Proofs.YtkgngggppcmpfaaGreat.L
open Go.RowKit Go.Proofs.YtkgngggppcmpfaaGreatW.PrintWords Go.Proofs.YtkgngggppcmpfaaGreatW.PrintLast Go.Proofs.YtkgngggppcmpfaaGreatW.PrintMore Go.Proofs.YtkgngggppcmpfaaGreat.X
attribute [local go_sem] Q2 Q4 Qbd Qbe Qz Q0 Q3 Q5
set_option linter.unusedVariables false
set_option linter.unusedSimpArgs false
set_option maxHeartbeats 80000000 in
set_option maxRecDepth 100000 in
theorem laws_FnOrbitsShareIdeals.last24 : laws_FnOrbitsShareIdeals.part24.1:=by
 intros _ _ _ _ _ k A0 c0 l0 A1 c1 l1 r w hu26 HR0 HC0 HR1 HC1 H A3 H t784 A5 H t788 t791 A6 H t792 t795 A7 H t796 t799 A8 H t800 t803 A9 H t804 t805 A10 H t806 t807 A11 HC12 _ w13 gb787 w14 GW787 GE787 Ao15 co15 hcz16_0 hfz16_0 w17 v789 hcz18_0 hfz18_0 w19 v793 hcz20_0 hfz20_0 w21 v797 hcz22_0 hfz22_0 w23 v801 hcz24_0 hfz24_0 w25 hcz26_0 hfz26_0 w27 HO786 HO790 HO794 HO798 HO802 BK787 HB _ _ _
 have H:=HC12.out;clear HC12
 by_cases c28:(t791 !=t795)=true
 ·
  rw [if_pos c28] at H;have c28b0:(t791 !=t795)=true:=c28
  (try (have c28b1:decide (t791=t795)=false:=by simpa using c28))
  (try (have c28b2:(t791==t795)=false:=by simpa using c28))
  (try (have c28b3: ¬ (t791=t795):=by simpa using c28))
  clear c28
  (first|rw [c28b0] |(simp only [Qcw,Qed];rw [c28b0])|skip)
  have H':=Aside0.mk H;clear H;go_wp2
  repeat (go_quiet (fail);try go_wp2)
  go_meet
  case rel=>exact ⟨_,(true),(by first|rfl|(simp;done)|(simp [*];done)),H',⟨by first|omega|exact Nat.le_refl _⟩,⟨by (with_reducible repeat (first|apply Kd.S_alloc|apply Kd.S_drewN|apply Kd.S_drew));exact Kd.S_mono HO790.out (fun _ hk=>⟨hk.1.2,hk.1.1.1.2⟩)⟩,⟨Kd.R_mono (uR HO798) (fun _ hk=>hk.1.2)⟩,⟨Kd.R_mono (uR HO786) (fun _ hk=>hk.1.2)⟩,⟨uK BK787⟩,⟨(vB HB)⟩⟩
 ·
  rw [if_neg c28] at H;have c28b0:(t791 !=t795)=false:=by simpa using c28
  (try (have c28b1:decide (t791=t795)=true:=by simpa using c28))
  (try (have c28b2:(t791==t795)=true:=by simpa using c28))
  clear c28
  (first|rw [c28b0] |(simp only [Qcw,Qed];rw [c28b0])|skip)
  obtain ⟨t808,A29,H⟩:=bs H;(try dsimp only at H)
  by_cases c30:t808=true
  ·
   subst c30;rw [if_pos rfl] at H
   by_cases c31:(t799 !=t803)=true
   ·
    rw [if_pos c31] at H;have c31b0:(t799 !=t803)=true:=c31
    (try (have c31b1:decide (t799=t803)=false:=by simpa using c31))
    (try (have c31b2:(t799==t803)=false:=by simpa using c31))
    (try (have c31b3: ¬ (t799=t803):=by simpa using c31))
    clear c31;have H':=Aside0.mk H;clear H;obtain ⟨Ao32,co32,eo32⟩:=Kd.S_slice HO790.out;subst eo32;obtain ⟨Ao33,co33,eo33⟩:=Kd.S_slice HO794.out;subst eo33
    ·
     go_wp2_with (first|(go_at_call 41;(with_reducible refine (Qbu.calls k _ _ t788 _ _ t792 true _ ?side1 ?side2 ?side3 ?side4 A29.out).mono ?_);(case side1=>repeat (first|exact (Kd.S_reads' HO790.out).2.2|(with_reducible refine Kd.C_alloc ?_ _)|(with_reducible refine Kd.C_drewN ?_ _)|(with_reducible refine Kd.C_drew ?_)));(case side2=>exact (Kd.S_reads' HO790.out).2.1);(case side3=>repeat (first|exact (Kd.S_reads' HO794.out).2.2|(with_reducible refine Kd.C_alloc ?_ _)|(with_reducible refine Kd.C_drewN ?_ _)|(with_reducible refine Kd.C_drew ?_)));(case side4=>exact (Kd.S_reads' HO794.out).2.1);rintro e w' ⟨rfl,⟨nd,rfl⟩⟩;(try first|exact ⟨rfl,_,World.drewN_drewN _ _ _⟩|exact ⟨rfl,_,Eq.trans (World.drewN_drewN _ _ _) (congrArg (World.drewN _) (Nat.add_assoc _ _ _))⟩)))
     go_meet
     case rel=>exact ⟨_,(true),(by first|rfl|(simp;done)|(simp [*];done)),H',⟨by first|omega|exact Nat.le_refl _⟩,⟨by (with_reducible repeat (first|apply Kd.S_alloc|apply Kd.S_drewN|apply Kd.S_drew));exact Kd.S_mono HO790.out (fun _ hk=>⟨hk.1.2,hk.1.1.1.2⟩)⟩,⟨Kd.R_mono (uR HO798) (fun _ hk=>hk.1.2)⟩,⟨Kd.R_mono (uR HO786) (fun _ hk=>hk.1.2)⟩,⟨uK BK787⟩,⟨(vB HB)⟩⟩
   ·
    rw [if_neg c31] at H;have c31b0:(t799 !=t803)=false:=by simpa using c31
    (try (have c31b1:decide (t799=t803)=true:=by simpa using c31))
    (try (have c31b2:(t799==t803)=true:=by simpa using c31))
    clear c31;obtain ⟨t809,A34,H⟩:=bs H;(try dsimp only at H)
    by_cases c35:t809=true
    ·
     subst c35;rw [if_pos rfl] at H
     by_cases c36:(t805 !=t807)=true
     ·
      rw [if_pos c36] at H;have c36b0:(t805 !=t807)=true:=c36
      (try (have c36b1:decide (t805=t807)=false:=by simpa using c36))
      (try (have c36b2:(t805==t807)=false:=by simpa using c36))
      (try (have c36b3: ¬ (t805=t807):=by simpa using c36))
      clear c36;have H':=Aside0.mk H;clear H;obtain ⟨Ao37,co37,eo37⟩:=Kd.S_slice HO790.out;subst eo37;obtain ⟨Ao38,co38,eo38⟩:=Kd.S_slice HO794.out;subst eo38
      ·
       go_wp2_with (first|(go_at_call 41;(with_reducible refine (Qbu.calls k _ _ t788 _ _ t792 true _ ?side1 ?side2 ?side3 ?side4 A29.out).mono ?_);(case side1=>repeat (first|exact (Kd.S_reads' HO790.out).2.2|(with_reducible refine Kd.C_alloc ?_ _)|(with_reducible refine Kd.C_drewN ?_ _)|(with_reducible refine Kd.C_drew ?_)));(case side2=>exact (Kd.S_reads' HO790.out).2.1);(case side3=>repeat (first|exact (Kd.S_reads' HO794.out).2.2|(with_reducible refine Kd.C_alloc ?_ _)|(with_reducible refine Kd.C_drewN ?_ _)|(with_reducible refine Kd.C_drew ?_)));(case side4=>exact (Kd.S_reads' HO794.out).2.1);rintro e w' ⟨rfl,⟨nd,rfl⟩⟩;(try first|exact ⟨rfl,_,World.drewN_drewN _ _ _⟩|exact ⟨rfl,_,Eq.trans (World.drewN_drewN _ _ _) (congrArg (World.drewN _) (Nat.add_assoc _ _ _))⟩);obtain ⟨Ao39,co39,eo39⟩:=Kd.R_slice HO798.out;subst eo39;obtain ⟨Ao40,co40,eo40⟩:=Kd.R_slice HO802.out;subst eo40)|(go_at_call 22;(with_reducible refine (Qbb.calls k _ _ t796 _ _ t800 true _ (uE HO798) ?side2 (uE HO802) ?side4 A34.out).mono ?_);(case side2=>exact (Kd.R_reads' HO798.out).2.1);(case side4=>exact (Kd.R_reads' HO802.out).2.1);rintro e w' ⟨rfl,⟨nd,rfl⟩⟩;(try first|exact ⟨rfl,_,World.drewN_drewN _ _ _⟩|exact ⟨rfl,_,Eq.trans (World.drewN_drewN _ _ _) (congrArg (World.drewN _) (Nat.add_assoc _ _ _))⟩)))
       go_meet
       case rel=>exact ⟨_,(true),(by first|rfl|(simp;done)|(simp [*];done)),H',⟨by first|omega|exact Nat.le_refl _⟩,⟨by (with_reducible repeat (first|apply Kd.S_alloc|apply Kd.S_drewN|apply Kd.S_drew));exact Kd.S_mono HO790.out (fun _ hk=>⟨hk.1.2,hk.1.1.1.2⟩)⟩,⟨Kd.R_mono (uR HO798) (fun _ hk=>hk.1.2)⟩,⟨Kd.R_mono (uR HO786) (fun _ hk=>hk.1.2)⟩,⟨uK BK787⟩,⟨(vB HB)⟩⟩
     ·
      rw [if_neg c36] at H;have c36b0:(t805 !=t807)=false:=by simpa using c36
      (try (have c36b1:decide (t805=t807)=true:=by simpa using c36))
      (try (have c36b2:(t805==t807)=true:=by simpa using c36))
      clear c36
      by_cases c41:t804=t806
      ·
       rw [if_pos c41] at H;have c41b0:(t804==t806)=true:=beq_iff_eq.mpr c41;have c41b1:(t804 !=t806)=false:=bne_eq_false_iff_eq.mpr c41;clear c41;have H':=Aside0.mk H;clear H;obtain ⟨Ao42,co42,eo42⟩:=Kd.S_slice HO790.out;subst eo42;obtain ⟨Ao43,co43,eo43⟩:=Kd.S_slice HO794.out;subst eo43
       ·
        go_wp2_with (first|(go_at_call 41;(with_reducible refine (Qbu.calls k _ _ t788 _ _ t792 true _ ?side1 ?side2 ?side3 ?side4 A29.out).mono ?_);(case side1=>repeat (first|exact (Kd.S_reads' HO790.out).2.2|(with_reducible refine Kd.C_alloc ?_ _)|(with_reducible refine Kd.C_drewN ?_ _)|(with_reducible refine Kd.C_drew ?_)));(case side2=>exact (Kd.S_reads' HO790.out).2.1);(case side3=>repeat (first|exact (Kd.S_reads' HO794.out).2.2|(with_reducible refine Kd.C_alloc ?_ _)|(with_reducible refine Kd.C_drewN ?_ _)|(with_reducible refine Kd.C_drew ?_)));(case side4=>exact (Kd.S_reads' HO794.out).2.1);rintro e w' ⟨rfl,⟨nd,rfl⟩⟩;(try first|exact ⟨rfl,_,World.drewN_drewN _ _ _⟩|exact ⟨rfl,_,Eq.trans (World.drewN_drewN _ _ _) (congrArg (World.drewN _) (Nat.add_assoc _ _ _))⟩);obtain ⟨Ao44,co44,eo44⟩:=Kd.R_slice HO798.out;subst eo44;obtain ⟨Ao45,co45,eo45⟩:=Kd.R_slice HO802.out;subst eo45)|(go_at_call 22;(with_reducible refine (Qbb.calls k _ _ t796 _ _ t800 true _ (uE HO798) ?side2 (uE HO802) ?side4 A34.out).mono ?_);(case side2=>exact (Kd.R_reads' HO798.out).2.1);(case side4=>exact (Kd.R_reads' HO802.out).2.1);rintro e w' ⟨rfl,⟨nd,rfl⟩⟩;(try first|exact ⟨rfl,_,World.drewN_drewN _ _ _⟩|exact ⟨rfl,_,Eq.trans (World.drewN_drewN _ _ _) (congrArg (World.drewN _) (Nat.add_assoc _ _ _))⟩)))
        go_meet
        case rel=>exact ⟨_,((t799 !=t791)),(by first|rfl|(simp;done)|(simp [*];done)),H',⟨by first|omega|exact Nat.le_refl _⟩,⟨by (with_reducible repeat (first|apply Kd.S_alloc|apply Kd.S_drewN|apply Kd.S_drew));exact Kd.S_mono HO790.out (fun _ hk=>⟨hk.1.2,hk.1.1.1.2⟩)⟩,⟨Kd.R_mono (uR HO798) (fun _ hk=>hk.1.2)⟩,⟨Kd.R_mono (uR HO786) (fun _ hk=>hk.1.2)⟩,⟨uK BK787⟩,⟨(vB HB)⟩⟩
      ·
       rw [if_neg c41] at H;have c41b0:(t804==t806)=false:=beq_eq_false_iff_ne.mpr c41;have c41b1:(t804 !=t806)=true:=bne_iff_ne.mpr c41;have H':=Aside0.mk H;clear H;obtain ⟨Ao46,co46,eo46⟩:=Kd.S_slice HO790.out;subst eo46;obtain ⟨Ao47,co47,eo47⟩:=Kd.S_slice HO794.out;subst eo47
       ·
        go_wp2_with (first|(go_at_call 41;(with_reducible refine (Qbu.calls k _ _ t788 _ _ t792 true _ ?side1 ?side2 ?side3 ?side4 A29.out).mono ?_);(case side1=>repeat (first|exact (Kd.S_reads' HO790.out).2.2|(with_reducible refine Kd.C_alloc ?_ _)|(with_reducible refine Kd.C_drewN ?_ _)|(with_reducible refine Kd.C_drew ?_)));(case side2=>exact (Kd.S_reads' HO790.out).2.1);(case side3=>repeat (first|exact (Kd.S_reads' HO794.out).2.2|(with_reducible refine Kd.C_alloc ?_ _)|(with_reducible refine Kd.C_drewN ?_ _)|(with_reducible refine Kd.C_drew ?_)));(case side4=>exact (Kd.S_reads' HO794.out).2.1);rintro e w' ⟨rfl,⟨nd,rfl⟩⟩;(try first|exact ⟨rfl,_,World.drewN_drewN _ _ _⟩|exact ⟨rfl,_,Eq.trans (World.drewN_drewN _ _ _) (congrArg (World.drewN _) (Nat.add_assoc _ _ _))⟩);obtain ⟨Ao48,co48,eo48⟩:=Kd.R_slice HO798.out;subst eo48;obtain ⟨Ao49,co49,eo49⟩:=Kd.R_slice HO802.out;subst eo49)|(go_at_call 22;(with_reducible refine (Qbb.calls k _ _ t796 _ _ t800 true _ (uE HO798) ?side2 (uE HO802) ?side4 A34.out).mono ?_);(case side2=>exact (Kd.R_reads' HO798.out).2.1);(case side4=>exact (Kd.R_reads' HO802.out).2.1);rintro e w' ⟨rfl,⟨nd,rfl⟩⟩;(try first|exact ⟨rfl,_,World.drewN_drewN _ _ _⟩|exact ⟨rfl,_,Eq.trans (World.drewN_drewN _ _ _) (congrArg (World.drewN _) (Nat.add_assoc _ _ _))⟩)))
        go_meet
        case rel=>exact ⟨_,(true),(by first|rfl|(simp;done)|(simp [*];done)),H',⟨by first|omega|exact Nat.le_refl _⟩,⟨by (with_reducible repeat (first|apply Kd.S_alloc|apply Kd.S_drewN|apply Kd.S_drew));exact Kd.S_mono HO790.out (fun _ hk=>⟨hk.1.2,hk.1.1.1.2⟩)⟩,⟨Kd.R_mono (uR HO798) (fun _ hk=>hk.1.2)⟩,⟨Kd.R_mono (uR HO786) (fun _ hk=>hk.1.2)⟩,⟨uK BK787⟩,⟨(vB HB)⟩⟩
    ·
     replace c35:=Bool.eq_false_iff.mpr c35;subst c35;rw [if_neg (show ¬ (false=true) by decide)] at H;have H':=Aside0.mk H;clear H;obtain ⟨Ao50,co50,eo50⟩:=Kd.S_slice HO790.out;subst eo50;obtain ⟨Ao51,co51,eo51⟩:=Kd.S_slice HO794.out;subst eo51
     ·
      go_wp2_with (first|(go_at_call 41;(with_reducible refine (Qbu.calls k _ _ t788 _ _ t792 true _ ?side1 ?side2 ?side3 ?side4 A29.out).mono ?_);(case side1=>repeat (first|exact (Kd.S_reads' HO790.out).2.2|(with_reducible refine Kd.C_alloc ?_ _)|(with_reducible refine Kd.C_drewN ?_ _)|(with_reducible refine Kd.C_drew ?_)));(case side2=>exact (Kd.S_reads' HO790.out).2.1);(case side3=>repeat (first|exact (Kd.S_reads' HO794.out).2.2|(with_reducible refine Kd.C_alloc ?_ _)|(with_reducible refine Kd.C_drewN ?_ _)|(with_reducible refine Kd.C_drew ?_)));(case side4=>exact (Kd.S_reads' HO794.out).2.1);rintro e w' ⟨rfl,⟨nd,rfl⟩⟩;(try first|exact ⟨rfl,_,World.drewN_drewN _ _ _⟩|exact ⟨rfl,_,Eq.trans (World.drewN_drewN _ _ _) (congrArg (World.drewN _) (Nat.add_assoc _ _ _))⟩);obtain ⟨Ao52,co52,eo52⟩:=Kd.R_slice HO798.out;subst eo52;obtain ⟨Ao53,co53,eo53⟩:=Kd.R_slice HO802.out;subst eo53)|(go_at_call 22;(with_reducible refine (Qbb.calls k _ _ t796 _ _ t800 false _ (uE HO798) ?side2 (uE HO802) ?side4 A34.out).mono ?_);(case side2=>exact (Kd.R_reads' HO798.out).2.1);(case side4=>exact (Kd.R_reads' HO802.out).2.1);rintro e w' ⟨rfl,⟨nd,rfl⟩⟩;(try first|exact ⟨rfl,_,World.drewN_drewN _ _ _⟩|exact ⟨rfl,_,Eq.trans (World.drewN_drewN _ _ _) (congrArg (World.drewN _) (Nat.add_assoc _ _ _))⟩)))
      go_meet
      case rel=>exact ⟨_,(true),(by first|rfl|(simp;done)|(simp [*];done)),H',⟨by first|omega|exact Nat.le_refl _⟩,⟨by (with_reducible repeat (first|apply Kd.S_alloc|apply Kd.S_drewN|apply Kd.S_drew));exact Kd.S_mono HO790.out (fun _ hk=>⟨hk.1.2,hk.1.1.1.2⟩)⟩,⟨Kd.R_mono (uR HO798) (fun _ hk=>hk.1.2)⟩,⟨Kd.R_mono (uR HO786) (fun _ hk=>hk.1.2)⟩,⟨uK BK787⟩,⟨(vB HB)⟩⟩
  ·
   replace c30:=Bool.eq_false_iff.mpr c30;subst c30;rw [if_neg (show ¬ (false=true) by decide)] at H;have H':=Aside0.mk H;clear H;obtain ⟨Ao54,co54,eo54⟩:=Kd.S_slice HO790.out;subst eo54;obtain ⟨Ao55,co55,eo55⟩:=Kd.S_slice HO794.out;subst eo55
   ·
    go_wp2_with (first|(go_at_call 41;(with_reducible refine (Qbu.calls k _ _ t788 _ _ t792 false _ ?side1 ?side2 ?side3 ?side4 A29.out).mono ?_);(case side1=>repeat (first|exact (Kd.S_reads' HO790.out).2.2|(with_reducible refine Kd.C_alloc ?_ _)|(with_reducible refine Kd.C_drewN ?_ _)|(with_reducible refine Kd.C_drew ?_)));(case side2=>exact (Kd.S_reads' HO790.out).2.1);(case side3=>repeat (first|exact (Kd.S_reads' HO794.out).2.2|(with_reducible refine Kd.C_alloc ?_ _)|(with_reducible refine Kd.C_drewN ?_ _)|(with_reducible refine Kd.C_drew ?_)));(case side4=>exact (Kd.S_reads' HO794.out).2.1);rintro e w' ⟨rfl,⟨nd,rfl⟩⟩;(try first|exact ⟨rfl,_,World.drewN_drewN _ _ _⟩|exact ⟨rfl,_,Eq.trans (World.drewN_drewN _ _ _) (congrArg (World.drewN _) (Nat.add_assoc _ _ _))⟩)))
    go_meet
    case rel=>exact ⟨_,(true),(by first|rfl|(simp;done)|(simp [*];done)),H',⟨by first|omega|exact Nat.le_refl _⟩,⟨by (with_reducible repeat (first|apply Kd.S_alloc|apply Kd.S_drewN|apply Kd.S_drew));exact Kd.S_mono HO790.out (fun _ hk=>⟨hk.1.2,hk.1.1.1.2⟩)⟩,⟨Kd.R_mono (uR HO798) (fun _ hk=>hk.1.2)⟩,⟨Kd.R_mono (uR HO786) (fun _ hk=>hk.1.2)⟩,⟨uK BK787⟩,⟨(vB HB)⟩⟩
end Go.Proofs.YtkgngggppcmpfaaGreat.L
end
