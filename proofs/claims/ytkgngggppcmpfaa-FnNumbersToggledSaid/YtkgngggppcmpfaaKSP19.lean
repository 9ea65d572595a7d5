/- Laws about the given program: a part of the walk of the law FnNumbersToggled; no condition is added to the given statement. -/
import Derived.Test.YtkgngggppcmpfaaKSP12
section
namespace Go.Proofs.Ytkgngggppcmpfaa.L
open Go.RowKit Go.Proofs.YtkgngggppcmpfaaW.PrintWords Go.Proofs.YtkgngggppcmpfaaW.PrintLast Go.Proofs.YtkgngggppcmpfaaW.PrintMore Go.Proofs.Ytkgngggppcmpfaa.X
attribute [local go_sem] max2_int min2_int max_two min_two max_three min_three max_four min_four
set_option linter.unusedVariables false
set_option linter.unusedSimpArgs false
set_option maxHeartbeats 80000000 in
set_option maxRecDepth 100000 in
theorem laws_FnNumbersToggled.last633 : laws_FnNumbersToggled.part608.2.1:=by
 intros wc _ _ _ _ _ _ _ _ k A0 c0 l0 A1 c1 l1 r w hu26 HR0 HC0 HR1 HC1 H A3 H t626 t629 t632 t633 A5 H t635 t638 A6 H t639 t642 A7 H t643 t644 t645 A8 H t646 t647 t648 A9 _ w11 gb634 w12 GW634 GE634 Ao13 co13 Ao15 co15 w16 v636 w18 v640 w20 w22 HO628 HO631 HO637 HO641 BK634 HB HO_6 HO_9 HO_635000 BK634 HB kj9 HJ9 b0 b1 b2 b3 b4 kj39 HJ39 H t659 t662 t665 t666 A61 H t670 t673 A62 H t674 t677 A63 w65 gb669 w66 GW669 GE669 NB634_669 NB669_634 Ao67 co67 hnb68 hnc68 Ao70 co70 Ao71 co71 w72 v671 w74 v675 HO676 HO_635000 HO661 HO664 HO668 HO672 BK634 BK669 HB HO_24 HO_26 HO_27 HO_635000 HO_670000 BK634 BK669 HB kj63 HJ63 b5 b6 b7 b8 b9 kj79 HJ79 H t688 t691 t694 A97 H t696 t699 A98 H t700 t703 A99 H t704 t707 A100 H t708 t711 A101 H t712 t713 A102 H t714 t715 A103 w105 gb695 w106 GW695 GE695 NB634_695 NB695_634 NB669_695 NB695_669 Ao107 co107 hnb108 hnc108 hnb109 hnc109 Ao111 co111 w112 v697 w114 v701 w116 v705 w118 v709 w120 w122 HO_635000 HO_670000 HO690 HO693 HO698 HO702 HO706 HO710 BK634 BK669 BK695 HB HO_36 HO_38 HO_42 HO_635000 HO_670000 HO_696000 BK634 BK669 BK695 HB kj103 HJ103 bA bB bD bE bF bG bH bI bJ bK kj156 HJ156 H t739 t742 t745 t746 A220 H t748 t751 A221 H t752 t755 A222 w224 gb747 w225 GW747 GE747 NB634_747 NB747_634 NB669_747 NB747_669 NB695_747 NB747_695 Ao226 co226 hnb227 hnc227 hnb228 hnc228 hnb229 hnc229 Ao231 co231 w232 v749 w234 v753 HO754 HO_635000 HO_670000 HO_696000 HO741 HO744 HO750 BK634 BK669 BK695 BK747 HB _ _ wc bL bM bN bO bP bQ bR bS bT bU bV bW bX bY bZ c2 c3 c4 c5 c6 c7 c8 c9 cA cB cC cD cE cF cG cH cI cJ cK cL cM cN cO cP cQ cR cS cT cU cV cW cX cY cZ d0 d1 d2 d3 d4 d5 d6 d7 d8 d9 dA dB dC dD dE dF dG dH dI dJ dK dL dM dN dO dP dQ dR dS dT dU dV dW dX dY dZ e0 e1 e2 e3 e4 e5 e6 e7 e8 e9 eA eB eC eD eE eF eG eH eI eJ eK eL eM eN eO eP eQ eR eS eT eU eV eW eX eY eZ f0 f1 f2 f3 f4 f5 f6 f7 f8 f9 fA fB fC fD fE fF fG fH fI fJ fK fL fM fN fO fP fQ fR fS fT fU fV fW fX fY fZ g0 g1 g2 g3 g4 g5 g6 g7 g8 g9 gB gC gD gE gF gG gH gI gJ gK gL gM gN gO gP gQ gR gS gT gU gV gW gX gY gZ h0 h1 h2 h3 h4 h5 h6 h7 h8 h9 hA hB hC hD hE hF hG hH hI hJ hK hL hM hN hO hP hQ hR hS hT hU hV hW hX hY hZ i0 i1 i2 i3 i4 i5 i6 i7 i8 i9 iA iB iC iD iE iF iG iH iI iJ iK iL iM iN iO iP iQ iR iS iT iU iV iW iX iY iZ j0 j1 j2 j3 j4 j5 j6 j7 j8 j9 jA jB jC jD jE jF jG jH jI jJ jK jL jM jN jO jP jQ jR jS jT jU jV jW jX jY jZ l2 l3 l4 l5 l6 l7 l8 l9 lA lB lC lD lE lF lG lH lI lJ lK lL lM lN lO lP lQ lR lS lT lU lV lW lX lY lZ m0 m1 m2 m3 m4 m5 m6 m7 m8 m9 mA mB mC mD mE mF mG mH mI mJ mK mL mM mN mO mP mQ mR mS mT mU mV mW mX mY mZ n0 n1 n2 n3 n4 n5 n6 n7 n8 n9 nA nB nC nD nE nF nG nH nI nJ nK nL nM nN nO nP nQ nR nS nT nU nV nW nX nY nZ o0 o1 o2 o3 hcut
 obtain ⟨kq,x462_222,rfl,HA,HJ222,HO_60,HO_63,HO_635000,HO_670000,HO_696000,HO_748000,BK634,BK669,BK695,BK747,HB⟩:=hcut;cases kq with
 |zero=>exact absurd HA.out (by simp [laws_FnNumbersToggled.j10])
 |succ kj222=>
  have H:=HA.out;clear HA;simp only [laws_FnNumbersToggled.j10] at H
  by_cases c239:x462_222=true
  ·
   subst c239;rw [if_pos rfl] at H;exact absurd H (by simp)
  ·
   replace c239:=Bool.eq_false_iff.mpr c239;subst c239;rw [if_neg (show ¬ (false=true) by decide)] at H
   by_cases c240:t751=true
   ·
    subst c240;rw [if_pos rfl] at H;obtain ⟨⟨t757,t760⟩,A241,H⟩:=bs H;(try dsimp only at H)
    by_cases c242:t760=true
    ·
     subst c242;rw [if_pos rfl] at H;obtain ⟨t761,A243,H⟩:=bs H;(try dsimp only at H)
     obtain rfl:=Option.some.inj H;have hnb244:=NB747_634.out;have hnc244:=NB634_747.out;have hnb245:=NB747_669.out;have hnc245:=NB669_747.out;have hnb246:=NB747_695.out;have hnc246:=NB695_747.out;have hcz247_0:=bC BK747;have hfz247_0:=blk_frozen BK747.out 0;obtain ⟨Ao248,co248,eo248⟩:=Kd.R_slice HO_63.out;subst eo248
     ·
      go_wp2_with (first|((with_reducible refine gt ?_);refine gA (some 470) Try.func33 #[.agg #[.slice Ao226 t739.length co226], .slice Ao248 t748.length co248, .int .i64 t745, .int .i64 (wrap64 (-t746))] ?_;(with_reducible refine (impl_RowArrayTimes.calls kj222 _ _ t739 _ _ t748 t745 (wrap64 (-t746)) t757 true _ (uE HO_748000) ?side2 (uE HO_63) ?side4 A241.out).mono ?_);(case side2=>exact (Kd.R_reads' HO_748000.out).2.1);(case side4=>exact (Kd.R_reads' HO_63.out).2.1);rintro e w249 ⟨v758,rfl,ho0,hb⟩;refine ⟨_,rfl,?_⟩;have HO759:=Aside0.mk (Kd.R_lower (Kd.R_new' (Kd.R_new' (Kd.R_new' (Kd.R_new' (Kd.R_new' (Kd.R_new' ho0 (Kd.R_lt (uR HO_60))) (Kd.R_lt (uR HO_63))) (Kd.R_lt (uR HO_635000))) (Kd.R_lt (uR HO_670000))) (Kd.R_lt (uR HO_696000))) (Kd.R_lt (uR HO_748000))) (below_size (vB HB)));replace HO_60:=Aside0.mk (Kd.R_elder' (uR HO_60) (Kd.R_base ho0) hb);replace HO_63:=Aside0.mk (Kd.R_elder' (uR HO_63) (Kd.R_base ho0) hb);replace HO_635000:=Aside0.mk (Kd.R_elder' (uR HO_635000) (Kd.R_base ho0) hb);replace HO_670000:=Aside0.mk (Kd.R_elder' (uR HO_670000) (Kd.R_base ho0) hb);replace HO_696000:=Aside0.mk (Kd.R_elder' (uR HO_696000) (Kd.R_base ho0) hb);replace HO_748000:=Aside0.mk (Kd.R_elder' (uR HO_748000) (Kd.R_base ho0) hb);replace BK634:=Aside0.mk (blk_below (uK BK634) hb);replace BK669:=Aside0.mk (blk_below (uK BK669) hb);replace BK695:=Aside0.mk (blk_below (uK BK695) hb);replace BK747:=Aside0.mk (blk_below (uK BK747) hb);replace HB:=Aside0.mk (below_step (vB HB) hb);(try clear hb ho0);obtain ⟨Ao250,co250,eo250⟩:=Kd.R_slice HO759.out;subst eo250)|(go_at_call 12;(with_reducible refine (laws_nSame.calls kj222 _ _ t757 _ _ t742 t761 _ (uE HO759) ?side2 (uE HO_60) ?side4 A243.out).mono ?_);(case side2=>exact (Kd.R_reads' HO759.out).2.1);(case side4=>exact (Kd.R_reads' HO_60.out).2.1);rintro e w' ⟨rfl,⟨nd,rfl⟩⟩))
      go_ret
      exact ⟨by first|rfl|(simp [errW_none,errW_some] <;>rfl)|(simp [*,errW_none,errW_some] <;>rfl),(vB HB)⟩
    ·
     replace c242:=Bool.eq_false_iff.mpr c242;subst c242;rw [if_neg (show ¬ (false=true) by decide)] at H;exact absurd H (by simp)
   ·
    replace c240:=Bool.eq_false_iff.mpr c240;subst c240;rw [if_neg (show ¬ (false=true) by decide)] at H;obtain rfl:=Option.some.inj H;go_wp2
    go_ret
    exact ⟨by first|rfl|(simp [errW_none,errW_some] <;>rfl)|(simp [*,errW_none,errW_some] <;>rfl),(vB HB)⟩
end Go.Proofs.Ytkgngggppcmpfaa.L
end
