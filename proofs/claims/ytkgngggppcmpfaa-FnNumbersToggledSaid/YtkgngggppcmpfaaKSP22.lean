/- Laws about the given program: a part of the walk of the law FnNumbersToggled; no condition is added to the given statement. -/
import Derived.Test.YtkgngggppcmpfaaKSP21
section
namespace Go.Proofs.Ytkgngggppcmpfaa.L
open Go.RowKit Go.Proofs.YtkgngggppcmpfaaW.PrintWords Go.Proofs.YtkgngggppcmpfaaW.PrintLast Go.Proofs.YtkgngggppcmpfaaW.PrintMore Go.Proofs.Ytkgngggppcmpfaa.X
attribute [local go_sem] max2_int min2_int max_two min_two max_three min_three max_four min_four
set_option linter.unusedVariables false
set_option linter.unusedSimpArgs false
set_option maxHeartbeats 80000000 in
set_option maxRecDepth 100000 in
theorem laws_FnNumbersToggled.last270 : laws_FnNumbersToggled.part270.1:=by
 intros wc _ _ _ _ _ _ _ _ _ k A0 c0 l0 A1 c1 l1 r w hu26 HR0 HC0 HR1 HC1 H A3 H t626 t629 t632 t633 A5 H t635 t638 A6 H t639 t642 A7 H t643 t644 t645 A8 H t646 t647 t648 A9 _ w11 gb634 w12 GW634 GE634 Ao13 co13 Ao15 co15 w16 v636 w18 v640 w20 w22 HO628 HO631 HO637 HO641 BK634 HB HO_6 HO_9 HO_635000 BK634 HB kj9 HJ9 b0 b1 b2 b3 b4 kj39 HJ39 H t659 t662 t665 t666 A61 H t670 t674 t677 A63 w65 gb669 w66 GW669 GE669 NB634_669 NB669_634 Ao67 co67 hnb68 hnc68 Ao70 co70 Ao71 co71 w72 v671 w74 v675 HO676 HO_635000 HO661 HO664 HO668 HO672 BK634 BK669 HB wc b5 b6 b7 b8 b9 bA bB bD bE bF bG bH bI bJ bK bL bM bN bO bP bQ bR bS bT bU bV bW bX bY bZ c2 c3 c4 c5 c6 c7 c8 c9 cA cB cC cD cE cF cG cH cI cJ cK cL cM cN cO cP cQ cR cS cT cU cV cW cX cY cZ d0 d1 d2 d3 d4 d5 d6 d7 d8 d9 dA dB dC dD dE dF dG dH dI dJ dK dL dM dN dO dP dQ dR dS dT dU dV dW dX dY dZ e0 e1 e2 e3 e4 e5 e6 e7 e8 e9 eA eB eC eD eE eF eG eH eI eJ eK eL eM eN eO eP eQ eR eS eT eU eV eW eX eY eZ f0 f1 f2 f3 f4 f5 f6 f7 f8 f9 fA fB fC fD fE fF fG fH fI fJ fK fL fM fN fO fP fQ fR fS fT fU fV fW fX fY fZ g0 g1 g2 g3 g4 g5 g6 g7 g8 g9 gB gC gD gE gF gG gH gI gJ gK gL gM gN gO gP gQ gR gS gT gU gV gW gX gY gZ h0 h1 h2 h3 h4 h5 h6 h7 h8 h9 hA hB hC hD hE hF hG hH hI hJ hK hL hM hN hO hP hQ hR hS hT hU hV hW hX hY hZ i0 i1 i2 i3 i4 i5 i6 i7 i8 i9 iA iB iC iD iE iF iG iH iI iJ iK iL iM iN iO iP iQ iR iS iT iU iV iW iX iY iZ j0 j1 j2 j3 j4 j5 j6 j7 j8 j9 jA jB jC jD jE jF jG jH jI jJ jK jL jM jN jO jP jQ jR jS jT jU jV jW jX jY jZ l2 l3 l4 l5 l6 l7 l8 l9 lA lB lC lD lE lF lG lH lI lJ lK lL lM lN lO lP lQ lR lS lT lU lV lW lX lY lZ m0 m1 m2 m3 m4 m5 m6 m7 m8 m9 mA mB mC mD mE mF mG mH mI mJ mK mL mM mN mO mP mQ mR mS mT mU mV mW mX mY mZ n0 n1 n2 n3 n4 n5 n6 n7 n8 n9 nA nB nC nD nE nF nG nH nI nJ nK nL nM HO_24 HO_26 HO_27 HO_635000 HO_670000 BK634 BK669 HB kj63 HJ63 _ A62 H _ _ wr nN nO nP nQ nR nS nT nU nV nW nX nY _ x31_4 x32_4 HO_24 HO_26 HO_27 HO_31 HO_635000 HO_670000 BK634 BK669 HB k4 _ HK4 H c82
 rw [if_neg c82] at H;have c82b0:=decide_eq_false c82;clear c82
 (first|rw [c82b0] |(simp only [i64_w,i32_w];rw [c82b0])|skip)
 obtain ⟨⟨t683,t686⟩,A87,H⟩:=bs H;(try dsimp only at H)
 by_cases c88:t686=true
 ·
  subst c88;rw [if_pos rfl] at H;obtain ⟨t687,A89,H⟩:=bs H;(try dsimp only at H)
  by_cases c90:t687=true
  ·
   subst c90;rw [if_pos rfl] at H;have H':=Aside0.mk H;clear H;have hnb91:=NB669_634.out;have hnc91:=NB634_669.out;have hcz92_0:=bC BK669;have hfz92_0:=blk_frozen BK669.out 0;obtain ⟨Ao93,co93,eo93⟩:=Kd.R_slice HO_27.out;subst eo93;obtain ⟨Ao94,co94,eo94⟩:=Kd.R_slice HO_31.out;subst eo94
   ·
    go_wp2_with (first|((with_reducible refine gt ?_);refine gA (some 246) Try.func25 #[.agg #[.slice Ao67 t659.length co67], .slice Ao93 t670.length co93, .int .i64 t665, .slice Ao94 x31_4.length co94] ?_;(with_reducible refine (impl_ToggleNumbers.calls k4 _ _ t659 _ _ t670 t665 _ _ x31_4 t683 true _ (uE HO_670000) ?side2 (uE HO_27) ?side4 (uE HO_31) ?side6 A87.out).mono ?_);(case side2=>exact (Kd.R_reads' HO_670000.out).2.1);(case side4=>exact (Kd.R_reads' HO_27.out).2.1);(case side6=>exact (Kd.R_reads' HO_31.out).2.1);rintro e w95 ⟨v684,rfl,ho0,hb⟩;refine ⟨_,rfl,?_⟩;have HO685:=Aside0.mk (Kd.R_lower (Kd.R_new' (Kd.R_new' (Kd.R_new' (Kd.R_new' (Kd.R_new' (Kd.R_new' ho0 (Kd.R_lt (uR HO_24))) (Kd.R_lt (uR HO_26))) (Kd.R_lt (uR HO_27))) (Kd.R_lt (uR HO_31))) (Kd.R_lt (uR HO_635000))) (Kd.R_lt (uR HO_670000))) (below_size (vB HB)));replace HO_24:=Aside0.mk (Kd.R_elder' (uR HO_24) (Kd.R_base ho0) hb);replace HO_26:=Aside0.mk (Kd.R_elder' (uR HO_26) (Kd.R_base ho0) hb);replace HO_27:=Aside0.mk (Kd.R_elder' (uR HO_27) (Kd.R_base ho0) hb);replace HO_31:=Aside0.mk (Kd.R_elder' (uR HO_31) (Kd.R_base ho0) hb);replace HO_635000:=Aside0.mk (Kd.R_elder' (uR HO_635000) (Kd.R_base ho0) hb);replace HO_670000:=Aside0.mk (Kd.R_elder' (uR HO_670000) (Kd.R_base ho0) hb);replace BK634:=Aside0.mk (blk_below (uK BK634) hb);replace BK669:=Aside0.mk (blk_below (uK BK669) hb);replace HB:=Aside0.mk (below_step (vB HB) hb);(try clear hb ho0);obtain ⟨Ao96,co96,eo96⟩:=Kd.R_slice HO685.out;subst eo96)|(go_at_call 12;(with_reducible refine (laws_nSame.calls k4 _ _ t683 _ _ t662 true _ (uE HO685) ?side2 (uE HO_24) ?side4 A89.out).mono ?_);(case side2=>exact (Kd.R_reads' HO685.out).2.1);(case side4=>exact (Kd.R_reads' HO_24.out).2.1);rintro e w' ⟨rfl,⟨nd,rfl⟩⟩))
    go_meet
    case rel=>exact ⟨_,H',⟨by have:=HJ9.out;have:=HJ39.out;have:=HJ63.out;have:=HK4.out;first|omega|exact Nat.le_refl _⟩,⟨Kd.R_mono (uR HO_635000) (fun _ hk=>hk.1.2.2.2.2)⟩,⟨Kd.R_mono (uR HO_670000) (fun _ hk=>hk.1.2.2.2.2)⟩,⟨uK BK634⟩,⟨uK BK669⟩,⟨(vB HB)⟩⟩
  ·
   replace c90:=Bool.eq_false_iff.mpr c90;subst c90;rw [if_neg (show ¬ (false=true) by decide)] at H;exact absurd H (by simp)
 ·
  replace c88:=Bool.eq_false_iff.mpr c88;subst c88;rw [if_neg (show ¬ (false=true) by decide)] at H;exact absurd H (by simp)
end Go.Proofs.Ytkgngggppcmpfaa.L
end
