/- Laws about the given program: a part of the walk of the law FnNumbersToggled; no condition is added to the given statement. -/
import Derived.Test.YtkgngggppcmpfaaKSP4
section
namespace Go.Proofs.Ytkgngggppcmpfaa.L
open Go.RowKit Go.Proofs.YtkgngggppcmpfaaW.PrintWords Go.Proofs.YtkgngggppcmpfaaW.PrintLast Go.Proofs.YtkgngggppcmpfaaW.PrintMore Go.Proofs.Ytkgngggppcmpfaa.X
attribute [local go_sem] max2_int min2_int max_two min_two max_three min_three max_four min_four
set_option linter.unusedVariables false
set_option linter.unusedSimpArgs false
set_option maxHeartbeats 80000000 in
set_option maxRecDepth 100000 in
theorem laws_FnNumbersToggled.last189 : laws_FnNumbersToggled.part189.1:=by
 intros wc _ _ _ _ _ _ k A0 c0 l0 A1 c1 l1 r w hu26 HR0 HC0 HR1 HC1 H A3 H t626 t629 t632 t633 A5 H t635 t638 A6 H t639 t642 A7 H t643 t644 t645 A8 H t646 t647 t648 A9 _ w11 gb634 w12 GW634 GE634 Ao13 co13 Ao15 co15 w16 v636 w18 v640 w20 w22 HO628 HO631 HO637 HO641 BK634 HB HO_6 HO_9 HO_635000 BK634 HB kj9 HJ9 wc b0 b1 b2 b3 b4 b5 b6 b7 b8 b9 bA bB bC bD bE bF bG bH bI bJ bK bL bM bN bO bP bQ bR bS bT bU bV bW bX bY bZ c2 c3 c4 c5 c6 c7 c8 c9 cA cB cC cD cE cF cG cH cI cJ cK cL cM cN cO cP cQ cR cS cT cU cV cW cX cY cZ d0 d1 d2 d3 d4 d5 d6 d7 d8 d9 dA dB dC dD dE dF dG dH dI dJ dK dL dM dN dO dP dQ dR dS dT dU dV dW dX dY dZ e0 e1 e2 e3 e4 e5 e6 e7 e8 e9 eA eB eC eD eE eF eG eH eI eJ eK eL eM eN eO eP eQ eR eS eT eU eV eW eX eY eZ f0 f1 f2 f3 f4 f5 f6 f7 f8 f9 fA fB fC fD fE fF fG fH fI fJ fK fL fM fN fO fP fQ fR fS fT fU fV fW fX fY fZ g0 g1 g2 g3 g4 g5 g6 g7 g8 g9 gA gB gC gD gE gF gG gH gI gJ gK gL gM gN gO gP gQ gR gS gT gU gV gW gX gY gZ h0 h1 h2 h3 h4 h5 h6 h7 h8 h9 hA hB hC hD hE hF hG hH hI hJ hK hL hM hN hO hP hQ hR hS hT hU hV hW hX hY hZ i0 i1 i2 i3 i4 i5 i6 i7 i8 i9 iA iB iC iD iE iF iG iH iI iJ iK iL iM iN iO iP iQ iR iS iT iU iV iW iX iY iZ j0 j1 j2 j3 j4 j5 j6 j7 j8 j9 jA jB jC jD jE jF jG jH jI jJ jK jL jM jN jO jP jQ jR jS jT jU jV jW jX jY jZ l2 l3 l4 l5 l6 l7 l8 l9 lA lB lC lD lE lF lG lH lI lJ lK lL lM lN lO lP lQ lR lS lT lU lV lW lX lY lZ m0 m1 m2 m3 m4 m5 m6 m7 m8 m9 mA mB mC mD mE mF mG mH mI mJ mK mL mM mN mO mP mQ mR mS mT mU mV mW mX mY mZ kj39 HJ39 H t659 t662 t665 t666 A61 H t670 t673 A62 H t674 t677 A63 HC64 w65 gb669 w66 GW669 GE669 NB634_669 NB669_634 Ao67 co67 hnb68 hnc68 hcz69_0 hfz69_0 Ao70 co70 Ao71 co71 w72 v671 hcz73_0 hfz73_0 w74 v675 HO676 HO_635000 HO661 HO664 HO668 HO672 BK634 BK669 HB _ _ _
 have H:=HC64.out;clear HC64
 by_cases c75:(t673 !=t677)=true
 ·
  rw [if_pos c75] at H;have c75b0:(t673 !=t677)=true:=c75
  (try (have c75b1:decide (t673=t677)=false:=by simpa using c75))
  (try (have c75b2:(t673==t677)=false:=by simpa using c75))
  (try (have c75b3: ¬ (t673=t677):=by simpa using c75))
  clear c75
  (first|rw [c75b0] |(simp only [i64_w,i32_w];rw [c75b0])|skip)
  have H':=Aside0.mk H;clear H;go_wp2
  go_meet
  case rel=>exact ⟨_,(true),(by first|rfl|(simp;done)|(simp [*];done)),H',⟨by have:=HJ9.out;have:=HJ39.out;first|omega|exact Nat.le_refl _⟩,⟨Kd.R_mono (uR HO664) (fun _ hk=>⟨hk.1.1.1.2,⟨hk.1.2,⟨hk.1.1.2,hk.1.1.1.1⟩⟩⟩)⟩,⟨Kd.R_mono (uR HO668) (fun _ hk=>⟨hk.1.1.1.2,⟨hk.1.2,⟨hk.1.1.2,hk.1.1.1.1⟩⟩⟩)⟩,⟨Kd.R_mono (uR HO672) (fun _ hk=>⟨hk.1.1.2,⟨hk.1.2,⟨hk.1.1.1.1.2,hk.1.1.1.2⟩⟩⟩)⟩,⟨Kd.R_mono (uR HO_635000) (fun _ hk=>⟨hk.1.1.1.2,⟨hk.1.1.2,⟨hk.1.2,hk.1.1.1.1.2⟩⟩⟩)⟩,⟨Kd.R_mono (uR HO661) (fun _ hk=>⟨hk.1.1.1.1,⟨hk.1.1.1.2,⟨hk.1.2,hk.1.1.2⟩⟩⟩)⟩,⟨uK BK634⟩,⟨uK BK669⟩,⟨(vB HB)⟩⟩
 ·
  rw [if_neg c75] at H;have c75b0:(t673 !=t677)=false:=by simpa using c75
  (try (have c75b1:decide (t673=t677)=true:=by simpa using c75))
  (try (have c75b2:(t673==t677)=true:=by simpa using c75))
  clear c75
  (first|rw [c75b0] |(simp only [i64_w,i32_w];rw [c75b0])|skip)
  obtain ⟨t678,A76,H⟩:=bs H;(try dsimp only at H)
  have H':=Aside0.mk H;clear H;obtain ⟨Ao77,co77,eo77⟩:=Kd.R_slice HO672.out;subst eo77;obtain ⟨Ao78,co78,eo78⟩:=Kd.R_slice HO676.out;subst eo78
  ·
   go_wp2_with (first|(go_at_call 12;(with_reducible refine (laws_nSame.calls kj39 _ _ t670 _ _ t674 t678 _ (uE HO672) ?side2 (uE HO676) ?side4 A76.out).mono ?_);(case side2=>exact (Kd.R_reads' HO672.out).2.1);(case side4=>exact (Kd.R_reads' HO676.out).2.1);rintro e w' ⟨rfl,⟨nd,rfl⟩⟩))
   go_meet
   case rel=>exact ⟨_,(!t678),(by first|rfl|(simp;done)|(simp [*];done)),H',⟨by have:=HJ9.out;have:=HJ39.out;first|omega|exact Nat.le_refl _⟩,⟨Kd.R_mono (uR HO664) (fun _ hk=>⟨hk.1.1.1.2,⟨hk.1.2,⟨hk.1.1.2,hk.1.1.1.1⟩⟩⟩)⟩,⟨Kd.R_mono (uR HO668) (fun _ hk=>⟨hk.1.1.1.2,⟨hk.1.2,⟨hk.1.1.2,hk.1.1.1.1⟩⟩⟩)⟩,⟨Kd.R_mono (uR HO672) (fun _ hk=>⟨hk.1.1.2,⟨hk.1.2,⟨hk.1.1.1.1.2,hk.1.1.1.2⟩⟩⟩)⟩,⟨Kd.R_mono (uR HO_635000) (fun _ hk=>⟨hk.1.1.1.2,⟨hk.1.1.2,⟨hk.1.2,hk.1.1.1.1.2⟩⟩⟩)⟩,⟨Kd.R_mono (uR HO661) (fun _ hk=>⟨hk.1.1.1.1,⟨hk.1.1.1.2,⟨hk.1.2,hk.1.1.2⟩⟩⟩)⟩,⟨uK BK634⟩,⟨uK BK669⟩,⟨(vB HB)⟩⟩
end Go.Proofs.Ytkgngggppcmpfaa.L
end
