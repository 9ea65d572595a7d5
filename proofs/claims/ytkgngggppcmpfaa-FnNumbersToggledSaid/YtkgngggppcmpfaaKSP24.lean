/- Laws about the given program: a part of the walk of the law FnNumbersToggled; no condition is added to the given statement. -/
import Derived.Test.YtkgngggppcmpfaaKSP23
section
namespace Go.Proofs.Ytkgngggppcmpfaa.L
open Go.RowKit Go.Proofs.YtkgngggppcmpfaaW.PrintWords Go.Proofs.YtkgngggppcmpfaaW.PrintLast Go.Proofs.YtkgngggppcmpfaaW.PrintMore Go.Proofs.Ytkgngggppcmpfaa.X
attribute [local go_sem] max2_int min2_int max_two min_two max_three min_three max_four min_four
set_option linter.unusedVariables false
set_option linter.unusedSimpArgs false
set_option maxHeartbeats 80000000 in
set_option maxRecDepth 100000 in
theorem laws_FnNumbersToggled.last366 : laws_FnNumbersToggled.part366.1:=by
 intros wc _ _ _ _ _ _ _ _ k A0 c0 l0 A1 c1 l1 r w hu26 HR0 HC0 HR1 HC1 H A3 H t626 t629 t632 t633 A5 H t635 t638 A6 H t639 t642 A7 H t643 t644 t645 A8 H t646 t647 t648 A9 _ w11 gb634 w12 GW634 GE634 Ao13 co13 Ao15 co15 w16 v636 w18 v640 w20 w22 HO628 HO631 HO637 HO641 BK634 HB HO_6 HO_9 HO_635000 BK634 HB kj9 HJ9 b0 b1 b2 b3 b4 kj39 HJ39 H t659 t662 t665 t666 A61 H t670 t673 A62 H t674 t677 A63 w65 gb669 w66 GW669 GE669 NB634_669 NB669_634 Ao67 co67 hnb68 hnc68 Ao70 co70 Ao71 co71 w72 v671 w74 v675 HO676 HO_635000 HO661 HO664 HO668 HO672 BK634 BK669 HB HO_24 HO_26 HO_27 HO_635000 HO_670000 BK634 BK669 HB kj63 HJ63 wc b5 b6 b7 b8 b9 bA bB bC bD bE bF bG bH bI bJ bK bL bM bN bO bP bQ bR bS bT bU bV bW bX bY bZ c2 c3 c4 c5 c6 c7 c8 c9 cA cB cC cD cE cF cG cH cI cJ cK cL cM cN cO cP cQ cR cS cT cU cV cW cX cY cZ d0 d1 d2 d3 d4 d5 d6 d7 d8 d9 dA dB dC dD dE dF dG dH dI dJ dK dL dM dN dO dP dQ dR dS dT dU dV dW dX dY dZ e0 e1 e2 e3 e4 e5 e6 e7 e8 e9 eA eB eC eD eE eF eG eH eI eJ eK eL eM eN eO eP eQ eR eS eT eU eV eW eX eY eZ f0 f1 f2 f3 f4 f5 f6 f7 f8 f9 fA fB fC fD fE fF fG fH fI fJ fK fL fM fN fO fP fQ fR fS fT fU fV fW fX fY fZ g0 g1 g2 g3 g4 g5 g6 g7 g8 g9 gA gB gC gD gE gF gG gH gI gJ gK gL gM gN gO gP gQ gR gS gT gU gV gW gX gY gZ h0 h1 h2 h3 h4 h5 h6 h7 h8 h9 hA hB hC hD hE hF hG hH hI hJ hK hL hM hN hO hP hQ hR hS hT hU hV hW hX hY hZ i0 i1 i2 i3 i4 i5 i6 i7 i8 i9 iA iB iC iD iE iF iG iH iI iJ iK iL iM iN iO iP iQ iR iS iT iU iV iW iX iY iZ j0 j1 j2 j3 j4 j5 j6 j7 j8 j9 jA jB jC jD jE jF jG jH jI jJ jK jL jM jN jO jP jQ jR jS jT jU jV jW jX jY jZ l2 l3 l4 l5 l6 l7 l8 l9 lA lB lC lD lE lF lG lH lI lJ lK lL lM lN lO lP lQ lR lS lT lU lV lW lX lY lZ m0 m1 m2 m3 m4 m5 m6 m7 m8 m9 mA mB mC mD mE mF kj79 HJ79 H t688 t691 t694 A97 H t696 t699 A98 H t700 t703 A99 H t704 t707 A100 H t708 t711 A101 H t712 t713 A102 H t714 t715 A103 w105 gb695 w106 GW695 GE695 NB634_695 NB695_634 NB669_695 NB695_669 Ao107 co107 hnb108 hnc108 hnb109 hnc109 hcz110_0 hfz110_0 Ao111 co111 w112 v697 hcz113_0 hfz113_0 w114 v701 hcz115_0 hfz115_0 w116 v705 hcz117_0 hfz117_0 w118 v709 hcz119_0 hfz119_0 w120 hcz121_0 hfz121_0 w122 HO_635000 HO_670000 HO690 HO693 HO698 HO702 HO706 HO710 BK634 BK669 BK695 HB _ _ _ H c123b0 c123b1 c123b2 A124 H c126b0 c126b1 c126b2 A129 H c131
 rw [if_neg c131] at H;have c131b0:(t713 !=t715)=false:=by simpa using c131
 (try (have c131b1:decide (t713=t715)=true:=by simpa using c131))
 (try (have c131b2:(t713==t715)=true:=by simpa using c131))
 clear c131
 by_cases c136:(t712 !=t714)=true
 ·
  rw [if_pos c136] at H;have c136b0:(t712 !=t714)=true:=c136
  (try (have c136b1:decide (t712=t714)=false:=by simpa using c136))
  (try (have c136b2:(t712==t714)=false:=by simpa using c136))
  (try (have c136b3: ¬ (t712=t714):=by simpa using c136))
  clear c136;have H':=Aside0.mk H;clear H;obtain ⟨Ao137,co137,eo137⟩:=Kd.R_slice HO698.out;subst eo137;obtain ⟨Ao138,co138,eo138⟩:=Kd.R_slice HO702.out;subst eo138
  ·
   go_wp2_with (first|(go_at_call 12;(with_reducible refine (laws_nSame.calls kj79 _ _ t696 _ _ t700 true _ (uE HO698) ?side2 (uE HO702) ?side4 A124.out).mono ?_);(case side2=>exact (Kd.R_reads' HO698.out).2.1);(case side4=>exact (Kd.R_reads' HO702.out).2.1);rintro e w' ⟨rfl,⟨nd,rfl⟩⟩;obtain ⟨Ao139,co139,eo139⟩:=Kd.R_slice HO706.out;subst eo139;obtain ⟨Ao140,co140,eo140⟩:=Kd.R_slice HO710.out;subst eo140)|(go_at_call 12;(with_reducible refine (laws_nSame.calls kj79 _ _ t704 _ _ t708 true _ (uE HO706) ?side2 (uE HO710) ?side4 A129.out).mono ?_);(case side2=>exact (Kd.R_reads' HO706.out).2.1);(case side4=>exact (Kd.R_reads' HO710.out).2.1);rintro e w' ⟨rfl,⟨nd,rfl⟩⟩))
   go_meet
   case rel=>exact ⟨_,(true),(by first|rfl|(simp;done)|(simp [*];done)),H',⟨by have:=HJ9.out;have:=HJ39.out;have:=HJ63.out;have:=HJ79.out;first|omega|exact Nat.le_refl _⟩,⟨Kd.R_mono (uR HO693) (fun _ hk=>⟨hk.1.1.1.2,⟨hk.1.2,⟨hk.1.1.1.1.1.2,⟨hk.1.1.1.1.2,hk.1.1.1.1.1.1⟩⟩⟩⟩)⟩,⟨Kd.R_mono (uR HO698) (fun _ hk=>⟨hk.1.1.1.2,⟨hk.1.2,⟨hk.1.1.1.1.1.1.2,⟨hk.1.1.1.1.1.2,hk.1.1.1.1.2⟩⟩⟩⟩)⟩,⟨Kd.R_mono (uR HO706) (fun _ hk=>⟨hk.1.1.1.2,⟨hk.1.1.2,⟨hk.1.1.1.1.1.1.2,⟨hk.1.1.1.1.1.2,hk.1.1.1.1.2⟩⟩⟩⟩)⟩,⟨Kd.R_mono (uR HO_635000) (fun _ hk=>⟨hk.1.1.1.1.2,⟨hk.1.1.1.2,⟨hk.1.2,⟨hk.1.1.1.1.1.1,hk.1.1.1.1.1.2⟩⟩⟩⟩)⟩,⟨Kd.R_mono (uR HO_670000) (fun _ hk=>⟨hk.1.1.1.1.2,⟨hk.1.1.1.2,⟨hk.1.2,⟨hk.1.1.1.1.1.1,hk.1.1.1.1.1.2⟩⟩⟩⟩)⟩,⟨Kd.R_mono (uR HO690) (fun _ hk=>⟨hk.1.1.1.1.1.1,⟨hk.1.1.1.2,⟨hk.1.2,⟨hk.1.1.1.1.1.2,hk.1.1.1.1.2⟩⟩⟩⟩)⟩,⟨uK BK634⟩,⟨uK BK669⟩,⟨uK BK695⟩,⟨(vB HB)⟩⟩
 ·
  rw [if_neg c136] at H;have c136b0:(t712 !=t714)=false:=by simpa using c136
  (try (have c136b1:decide (t712=t714)=true:=by simpa using c136))
  (try (have c136b2:(t712==t714)=true:=by simpa using c136))
  clear c136
  by_cases c141:(t699 !=t712)=true
  ·
   rw [if_pos c141] at H;have c141b0:(t699 !=t712)=true:=c141
   (try (have c141b1:decide (t699=t712)=false:=by simpa using c141))
   (try (have c141b2:(t699==t712)=false:=by simpa using c141))
   (try (have c141b3: ¬ (t699=t712):=by simpa using c141))
   clear c141;have H':=Aside0.mk H;clear H;obtain ⟨Ao142,co142,eo142⟩:=Kd.R_slice HO698.out;subst eo142;obtain ⟨Ao143,co143,eo143⟩:=Kd.R_slice HO702.out;subst eo143
   ·
    go_wp2_with (first|(go_at_call 12;(with_reducible refine (laws_nSame.calls kj79 _ _ t696 _ _ t700 true _ (uE HO698) ?side2 (uE HO702) ?side4 A124.out).mono ?_);(case side2=>exact (Kd.R_reads' HO698.out).2.1);(case side4=>exact (Kd.R_reads' HO702.out).2.1);rintro e w' ⟨rfl,⟨nd,rfl⟩⟩;obtain ⟨Ao144,co144,eo144⟩:=Kd.R_slice HO706.out;subst eo144;obtain ⟨Ao145,co145,eo145⟩:=Kd.R_slice HO710.out;subst eo145)|(go_at_call 12;(with_reducible refine (laws_nSame.calls kj79 _ _ t704 _ _ t708 true _ (uE HO706) ?side2 (uE HO710) ?side4 A129.out).mono ?_);(case side2=>exact (Kd.R_reads' HO706.out).2.1);(case side4=>exact (Kd.R_reads' HO710.out).2.1);rintro e w' ⟨rfl,⟨nd,rfl⟩⟩))
    go_meet
    case rel=>exact ⟨_,(true),(by first|rfl|(simp;done)|(simp [*];done)),H',⟨by have:=HJ9.out;have:=HJ39.out;have:=HJ63.out;have:=HJ79.out;first|omega|exact Nat.le_refl _⟩,⟨Kd.R_mono (uR HO693) (fun _ hk=>⟨hk.1.1.1.2,⟨hk.1.2,⟨hk.1.1.1.1.1.2,⟨hk.1.1.1.1.2,hk.1.1.1.1.1.1⟩⟩⟩⟩)⟩,⟨Kd.R_mono (uR HO698) (fun _ hk=>⟨hk.1.1.1.2,⟨hk.1.2,⟨hk.1.1.1.1.1.1.2,⟨hk.1.1.1.1.1.2,hk.1.1.1.1.2⟩⟩⟩⟩)⟩,⟨Kd.R_mono (uR HO706) (fun _ hk=>⟨hk.1.1.1.2,⟨hk.1.1.2,⟨hk.1.1.1.1.1.1.2,⟨hk.1.1.1.1.1.2,hk.1.1.1.1.2⟩⟩⟩⟩)⟩,⟨Kd.R_mono (uR HO_635000) (fun _ hk=>⟨hk.1.1.1.1.2,⟨hk.1.1.1.2,⟨hk.1.2,⟨hk.1.1.1.1.1.1,hk.1.1.1.1.1.2⟩⟩⟩⟩)⟩,⟨Kd.R_mono (uR HO_670000) (fun _ hk=>⟨hk.1.1.1.1.2,⟨hk.1.1.1.2,⟨hk.1.2,⟨hk.1.1.1.1.1.1,hk.1.1.1.1.1.2⟩⟩⟩⟩)⟩,⟨Kd.R_mono (uR HO690) (fun _ hk=>⟨hk.1.1.1.1.1.1,⟨hk.1.1.1.2,⟨hk.1.2,⟨hk.1.1.1.1.1.2,hk.1.1.1.1.2⟩⟩⟩⟩)⟩,⟨uK BK634⟩,⟨uK BK669⟩,⟨uK BK695⟩,⟨(vB HB)⟩⟩
  ·
   rw [if_neg c141] at H;have c141b0:(t699 !=t712)=false:=by simpa using c141
   (try (have c141b1:decide (t699=t712)=true:=by simpa using c141))
   (try (have c141b2:(t699==t712)=true:=by simpa using c141))
   clear c141;have H':=Aside0.mk H;clear H;obtain ⟨Ao146,co146,eo146⟩:=Kd.R_slice HO698.out;subst eo146;obtain ⟨Ao147,co147,eo147⟩:=Kd.R_slice HO702.out;subst eo147
   ·
    go_wp2_with (first|(go_at_call 12;(with_reducible refine (laws_nSame.calls kj79 _ _ t696 _ _ t700 true _ (uE HO698) ?side2 (uE HO702) ?side4 A124.out).mono ?_);(case side2=>exact (Kd.R_reads' HO698.out).2.1);(case side4=>exact (Kd.R_reads' HO702.out).2.1);rintro e w' ⟨rfl,⟨nd,rfl⟩⟩;obtain ⟨Ao148,co148,eo148⟩:=Kd.R_slice HO706.out;subst eo148;obtain ⟨Ao149,co149,eo149⟩:=Kd.R_slice HO710.out;subst eo149)|(go_at_call 12;(with_reducible refine (laws_nSame.calls kj79 _ _ t704 _ _ t708 true _ (uE HO706) ?side2 (uE HO710) ?side4 A129.out).mono ?_);(case side2=>exact (Kd.R_reads' HO706.out).2.1);(case side4=>exact (Kd.R_reads' HO710.out).2.1);rintro e w' ⟨rfl,⟨nd,rfl⟩⟩))
    go_meet
    case rel=>exact ⟨_,((t707 !=t712)),(by first|rfl|(simp;done)|(simp [*];done)),H',⟨by have:=HJ9.out;have:=HJ39.out;have:=HJ63.out;have:=HJ79.out;first|omega|exact Nat.le_refl _⟩,⟨Kd.R_mono (uR HO693) (fun _ hk=>⟨hk.1.1.1.2,⟨hk.1.2,⟨hk.1.1.1.1.1.2,⟨hk.1.1.1.1.2,hk.1.1.1.1.1.1⟩⟩⟩⟩)⟩,⟨Kd.R_mono (uR HO698) (fun _ hk=>⟨hk.1.1.1.2,⟨hk.1.2,⟨hk.1.1.1.1.1.1.2,⟨hk.1.1.1.1.1.2,hk.1.1.1.1.2⟩⟩⟩⟩)⟩,⟨Kd.R_mono (uR HO706) (fun _ hk=>⟨hk.1.1.1.2,⟨hk.1.1.2,⟨hk.1.1.1.1.1.1.2,⟨hk.1.1.1.1.1.2,hk.1.1.1.1.2⟩⟩⟩⟩)⟩,⟨Kd.R_mono (uR HO_635000) (fun _ hk=>⟨hk.1.1.1.1.2,⟨hk.1.1.1.2,⟨hk.1.2,⟨hk.1.1.1.1.1.1,hk.1.1.1.1.1.2⟩⟩⟩⟩)⟩,⟨Kd.R_mono (uR HO_670000) (fun _ hk=>⟨hk.1.1.1.1.2,⟨hk.1.1.1.2,⟨hk.1.2,⟨hk.1.1.1.1.1.1,hk.1.1.1.1.1.2⟩⟩⟩⟩)⟩,⟨Kd.R_mono (uR HO690) (fun _ hk=>⟨hk.1.1.1.1.1.1,⟨hk.1.1.1.2,⟨hk.1.2,⟨hk.1.1.1.1.1.2,hk.1.1.1.1.2⟩⟩⟩⟩)⟩,⟨uK BK634⟩,⟨uK BK669⟩,⟨uK BK695⟩,⟨(vB HB)⟩⟩
end Go.Proofs.Ytkgngggppcmpfaa.L
end
