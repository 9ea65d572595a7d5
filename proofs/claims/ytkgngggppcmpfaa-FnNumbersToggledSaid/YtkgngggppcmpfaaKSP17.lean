/- Laws about the given program: a part of the walk of the law FnNumbersToggled; no condition is added to the given statement. -/
import Derived.Test.YtkgngggppcmpfaaKSP15
section
namespace Go.Proofs.Ytkgngggppcmpfaa.L
open Go.RowKit Go.Proofs.YtkgngggppcmpfaaW.PrintWords Go.Proofs.YtkgngggppcmpfaaW.PrintLast Go.Proofs.YtkgngggppcmpfaaW.PrintMore Go.Proofs.Ytkgngggppcmpfaa.X
attribute [local go_sem] max2_int min2_int max_two min_two max_three min_three max_four min_four
set_option linter.unusedVariables false
set_option linter.unusedSimpArgs false
set_option maxHeartbeats 80000000 in
set_option maxRecDepth 100000 in
theorem laws_FnNumbersToggled.last532 : laws_FnNumbersToggled.part518.2.1:=by
 intros wc _ _ _ _ _ _ _ _ _ _ _ _ _ _ k A0 c0 l0 A1 c1 l1 r w hu26 HR0 HC0 HR1 HC1 H A3 H t626 t629 t632 t633 A5 H t635 t638 A6 H t639 t642 A7 H t643 t644 t645 A8 H t646 t647 t648 A9 _ w11 gb634 w12 GW634 GE634 Ao13 co13 Ao15 co15 w16 v636 w18 v640 w20 w22 HO628 HO631 HO637 HO641 BK634 HB HO_6 HO_9 HO_635000 BK634 HB kj9 HJ9 b0 b1 b2 b3 b4 kj39 HJ39 H t659 t662 t665 t666 A61 H t670 t673 A62 H t674 t677 A63 w65 gb669 w66 GW669 GE669 NB634_669 NB669_634 Ao67 co67 hnb68 hnc68 Ao70 co70 Ao71 co71 w72 v671 w74 v675 HO676 HO_635000 HO661 HO664 HO668 HO672 BK634 BK669 HB HO_24 HO_26 HO_27 HO_635000 HO_670000 BK634 BK669 HB kj63 HJ63 b5 b6 b7 b8 b9 kj79 HJ79 H t688 t691 t694 A97 H t696 t700 t703 A99 t704 t707 A100 t708 t711 A101 t712 t713 A102 t714 t715 A103 w105 gb695 w106 GW695 GE695 NB634_695 NB695_634 NB669_695 NB695_669 Ao107 co107 hnb108 hnc108 hnb109 hnc109 Ao111 co111 w112 w114 v701 w116 w118 v709 w120 w122 BK634 BK669 BK695 HB bA bB bC bD bE bF bG bH bI bJ bK bL bM bN bO bP bQ bR bS bT bU bV bW bX bY bZ c2 c3 c4 c5 c6 c7 c8 c9 cA cB cC cD cE cF cG cH cI cJ cK cL cM cN cO cP cQ cR cS cT cU cV cW cX cY cZ d0 d1 d2 d3 d4 d5 d6 d7 d8 d9 dA dB dC dD dE dF dG dH dI dJ dK dL dM dN dO dP dQ dR dS dT dV dW dX dY dZ e0 e1 e2 e3 e4 e5 e6 e7 e8 e9 eA eB eC eD eE eF eG eH eI eJ eK eL eM eN eO eP eQ eR eS eT eU eV eW eX eY eZ f0 f1 f2 f3 f4 f5 f6 f7 f8 f9 fA fB fC fD fE fF fG fH fI fJ fK fL fM fN fO fP fQ fR fS fT fU fV fW fX fY fZ g0 g1 g2 g3 g4 g5 g6 g7 g8 g9 gA gB gC gD gE gF gG gH gI gJ gK gL gM gN gO gP gQ gR gS gT gU gV gW gX gY gZ h0 h1 h2 h3 h4 h5 h6 h7 h8 h9 hA hB hC hD hE hF hG hH hI hJ hL hM hN hO hP hQ hR hS hT hU hV hW hX hY hZ i0 i1 i2 i3 i4 i5 i6 i7 i8 i9 iA iB iC iD iE iF iG iH iI iJ iK iL iM iN iO iP iQ iR iS iT iU iV iW iX iY iZ j0 j1 j2 j3 j4 j5 j6 j7 j9 jA jB jC jD jE jF jG jH jI jJ jK jL jM jN jO jP jQ jR jS jT jU jV jW jX jY jZ l2 l3 l4 l5 l6 l7 l8 l9 lA lB lC lD lE lF lG lH lI lJ lK lL lM lN lO lP lQ lR lS lT lU lV lW lX lY lZ m0 m1 m2 m3 m4 m5 m6 m7 m8 m9 mA mB mC mD mE mF mG mH mI mJ mK mL mM mN mO mP mQ mR mS mT mU mV mW mX mY mZ n0 n1 n2 n3 n4 n5 n6 n7 n8 n9 nA nB nC nD nE nF nG nH nI nJ nK nL nM nN nO nP nQ nR nS kj103 HJ103 _ A98 H H H H H H t718 t721 A159 H t722 t725 A160 hnb162 hnc162 hnb163 hnc163 Ao165 co165 w166 v719 Ao168 co168 HO_635000 HO_670000 HO690 HO693 HO698 HO702 HO706 HO710 _ w169 v723 HO724 HO_36 HO_38 HO_42 HO_635000 HO_670000 HO_696000 HO720 BK634 BK669 BK695 HB nT nV nW nX nY nZ o0 o1 o2 o3 o4 o5 o6 o7 o8 o9 oA oB oC oD oE oF oG oH oI oJ oK oL oM oN oO oP oQ oR oS oT oV oW oX oY oZ p0 p1 p2 p3 p4 p5 p6 p7 p8 p9 pA pB pC pD pE pF pG pH pI pJ pK pL pM pN pO pP pQ pR pS pT pV pW pX pY pZ q0 q1 q2 q3 q4 q5 q6 q7 q8 q9 qA qB qC qD qE qF qG qH qI qJ qK qL qM qN qO qP qQ qR qS qT qU qV qW qX qY qZ r0 r1 r2 r3 r4 r5 r6 r7 r8 r9 rA rB rC rD rE rF rG rH rI rJ rK rL rM rN rO rP rQ rR rS rT rU rV rW rX rY rZ s0 s1 s2 s3 s4 s5 s6 s7 s8 s9 sA sB sC sD sE sF sG sH sI sJ sK sL sM sN sO sP sQ sR sS sT sV sW sX sY sZ t0 t1 t2 t3 t4 t5 t6 t7 t8 t9 tA tB tC tD tE tF tG tH tI tJ tK tL tM tN tO tP tQ tR tS tT tV tW tX tY tZ u0 u1 u2 u3 u4 u5 u6 u7 u8 u9 uA uB uC uD uF uG uH uI uJ uL uM uN uO uP uQ uS uT uU uV uW uX uY uZ v0 v1 v2 v3 v4 v5 v6 v7 v8 v9 vA vC vD vE vF vG vH vI vJ vK vL vM vN vO vP vQ vR vS vT vU vV vW vX vY vZ x0 x1 x2 x3 x4 x5 x6 x7 x8 x9 xA xB xC xD xE xF xG xH xI xJ xK xL xM xN xO xP xQ xR xS xT xU xV xW xX xY xZ y0 y1 y2 y3 y4 y5 y6 y7 y8 y9 yA yB yC yD yE yF yG yH yI yJ yK yL yM yN yO yP yQ yR yS yT yU yV yW yX HO_36 HO_635000 HO_670000 HO_696000 BK634 BK669 BK695 HB kj160 HJ160 wr yY yZ z0 _ x54_7 k7 _ HK7 H t728 t731 A183 hnb185 hnc185 hnb186 hnc186 _ w188 gb732 w189 BK732 GW732 GE732 HB NB634_732 NB732_634 BK634 NB669_732 NB732_669 BK669 NB695_732 NB732_695 BK695 Ao190 co190 HO_36 HO_635000 HO_670000 HO_696000 HO730 hnb191 hnc191 hnb192 hnc192 hnb193 hnc193 _ wc z1 z2 z3 z4 z5 z6 z7 z8 z9 zA zB zC zD zE zF zG zH zI zJ zK zL zM zN zO zP zQ zR zS zT zU zV zW zX zY zZ B0 B1 B2 B3 B4 B5 B6 B7 B8 B9 BA BB BC BD BE BF BG BH hcut
 obtain ⟨kq,x408_183,rfl,HA,HJ183,HO_36,HO_635000,HO_670000,HO_696000,HO_733000,BK634,BK669,BK695,BK732,HB⟩:=hcut;cases kq with
 |zero=>exact absurd HA.out (by simp [laws_FnNumbersToggled.j8])
 |succ kj183=>
  have H:=HA.out;clear HA;simp only [laws_FnNumbersToggled.j8] at H
  by_cases c205:x408_183=true
  ·
   subst c205;rw [if_pos rfl] at H
   by_cases c206:x54_7=0
   ·
    rw [if_pos c206] at H;exact absurd H (by simp)
   ·
    rw [if_neg c206] at H;have c206b0:(x54_7==0)=false:=beq_eq_false_iff_ne.mpr c206;have c206b1:(x54_7 !=0)=true:=bne_iff_ne.mpr c206;obtain ⟨⟨t734,t737⟩,A207,H⟩:=bs H;(try dsimp only at H)
    by_cases c208:t737=true
    ·
     subst c208;rw [if_pos rfl] at H;obtain ⟨t738,A209,H⟩:=bs H;(try dsimp only at H)
     by_cases c210:t738=true
     ·
      subst c210;rw [if_pos rfl] at H;have H':=Aside0.mk H;clear H
      try go_wp2
      replace HO_36:=Aside0.mk (Kd.R_drew HO_36.out);replace HO_635000:=Aside0.mk (Kd.R_drew HO_635000.out);replace HO_670000:=Aside0.mk (Kd.R_drew HO_670000.out);replace HO_696000:=Aside0.mk (Kd.R_drew HO_696000.out);replace HO_733000:=Aside0.mk (Kd.R_drew HO_733000.out);replace BK634:=Aside0.mk (blk_drew BK634.out);replace BK669:=Aside0.mk (blk_drew BK669.out);replace BK695:=Aside0.mk (blk_drew BK695.out);replace BK732:=Aside0.mk (blk_drew BK732.out);replace HB:=Aside0.mk (below_drew1 HB.out);refine sU (n:=16) (S:=fun w'=>w'.cell? ⟨gb695,0,none⟩=some (.slice Ao107 t688.length co107)) (ds:= []) ((blk_cell BK695.out 0).trans rfl) (fun hHeld=> ?_);refine with_tabW laws_FnNumbersToggled.tab49 laws_FnNumbersToggled.bits49 (fun HT_ HW_=> ?_);generalize wc.drew=w211 at HO_36 HO_635000 HO_670000 HO_696000 HO_733000 BK634 BK669 BK695 BK732 HB hHeld ⊢;refine pU 1 411 ?_;refine pU 2 412 ?_;refine pU 3 413 ?_;refine pU 4 414 ?_;refine pU 7 417 ?_;refine tU 0 410 hHeld ?_;refine tU 5 415 hHeld ?_;refine pU 6 416 ?_;refine pU 8 418 ?_;refine pU 9 419 ?_;refine oU 10 (some 420) fun K hK=> ?_
      refine goes_ Try.func33 (by kernel_rfl) rfl #[.agg #[.slice Ao107 t688.length co107], .slice Ao111 t691.length co111, .int .i64 t694, .int .i64 (wrap64 (x54_7+(wrap64 ((t688.length:Int) / x54_7))))] (by rfl) rfl rfl (by (try simp only [List.map_toArray,List.map_cons,List.map_nil]);first|done|rfl|(simp only [List.length_drop,List.length_take];rfl)) ?_
      with_reducible refine (impl_RowArrayTimes.calls kj183 _ _ t688 _ _ t691 t694 (wrap64 (x54_7+(wrap64 ((t688.length:Int) / x54_7)))) t734 true _ ?side1 ?side2 ?side3 ?side4 A207.out).mono ?_
      (case side1=>repeat (first|exact (Kd.R_reads' HO_696000.out).2.2|(with_reducible refine Kd.C_alloc ?_ _)|(with_reducible refine Kd.C_drewN ?_ _)|(with_reducible refine Kd.C_drew ?_)))
      (case side2=>exact (Kd.R_reads' HO_696000.out).2.1)
      (case side3=>repeat (first|exact (Kd.R_reads' HO_36.out).2.2|(with_reducible refine Kd.C_alloc ?_ _)|(with_reducible refine Kd.C_drewN ?_ _)|(with_reducible refine Kd.C_drew ?_)))
      (case side4=>exact (Kd.R_reads' HO_36.out).2.1)
      rintro e w212 ⟨v735,rfl,ho0,hb⟩;refine ⟨_,rfl,?_⟩;have HO736:=Aside0.mk (Kd.R_lower (Kd.R_new' (Kd.R_new' (Kd.R_new' (Kd.R_new' (Kd.R_new' ho0 (Kd.R_lt (uR HO_36))) (Kd.R_lt (uR HO_635000))) (Kd.R_lt (uR HO_670000))) (Kd.R_lt (uR HO_696000))) (Kd.R_lt (uR HO_733000))) (below_size (vB HB)));replace HO_36:=Aside0.mk (Kd.R_elder' (uR HO_36) (Kd.R_base ho0) hb);replace HO_635000:=Aside0.mk (Kd.R_elder' (uR HO_635000) (Kd.R_base ho0) hb);replace HO_670000:=Aside0.mk (Kd.R_elder' (uR HO_670000) (Kd.R_base ho0) hb);replace HO_696000:=Aside0.mk (Kd.R_elder' (uR HO_696000) (Kd.R_base ho0) hb);replace HO_733000:=Aside0.mk (Kd.R_elder' (uR HO_733000) (Kd.R_base ho0) hb);replace BK634:=Aside0.mk (blk_below (uK BK634) hb);replace BK669:=Aside0.mk (blk_below (uK BK669) hb);replace BK695:=Aside0.mk (blk_below (uK BK695) hb);replace BK732:=Aside0.mk (blk_below (uK BK732) hb);replace HB:=Aside0.mk (below_step (vB HB) hb)
      skip
      skip
      skip
      skip
      skip
      refine hK.out _ _ ((blk_cell BK695.out 0).trans rfl) (fun hHeld=> ?_);clear hK K;refine nU 420 ?_;refine pU 11 409 ?_;refine pU 12 421 ?_;refine pU 13 422 ?_;refine pU 14 57 ?_;refine pU 15 58 ?_;refine dU ?_;obtain ⟨Ao213,co213,eo213⟩:=Kd.R_slice HO736.out;subst eo213
      try go_wp2_with (first|(go_at_call 12;(with_reducible refine (laws_nSame.calls kj183 _ _ t734 _ _ t691 true _ (uE HO736) ?side2 (uE HO_36) ?side4 A209.out).mono ?_);(case side2=>exact (Kd.R_reads' HO736.out).2.1);(case side4=>exact (Kd.R_reads' HO_36.out).2.1);rintro e w' ⟨rfl,⟨nd,rfl⟩⟩))
      go_roundg kj183
      case measure=>have:=HJ9.out;have:=HJ39.out;have:=HJ63.out;have:=HJ79.out;have:=HJ103.out;have:=HJ160.out;have:=HK7.out;have:=HJ183.out;omega
      case rel=>exact ⟨(wrap64 (x54_7+1)),(by first|rfl|(simp;done)|(simp [*];done)),H',⟨by have:=HJ9.out;have:=HJ39.out;have:=HJ63.out;have:=HJ79.out;have:=HJ103.out;have:=HJ160.out;have:=HK7.out;have:=HJ183.out;omega⟩,⟨Kd.R_mono (uR HO_36) (fun _ hk=>⟨hk.1.1,⟨hk.1.2.1,hk.1.2.2.1⟩⟩)⟩,⟨Kd.R_mono (uR HO_635000) (fun _ hk=>⟨hk.1.1,⟨hk.1.2.1,hk.1.2.2.1⟩⟩)⟩,⟨Kd.R_mono (uR HO_670000) (fun _ hk=>⟨hk.1.1,⟨hk.1.2.1,hk.1.2.2.1⟩⟩)⟩,⟨Kd.R_mono (uR HO_696000) (fun _ hk=>⟨hk.1.1,⟨hk.1.2.1,hk.1.2.2.1⟩⟩)⟩,⟨uK BK634⟩,⟨uK BK669⟩,⟨uK BK695⟩,⟨(vB HB)⟩⟩
     ·
      replace c210:=Bool.eq_false_iff.mpr c210;subst c210;rw [if_neg (show ¬ (false=true) by decide)] at H;exact absurd H (by simp)
    ·
     replace c208:=Bool.eq_false_iff.mpr c208;subst c208;rw [if_neg (show ¬ (false=true) by decide)] at H;exact absurd H (by simp)
  ·
   replace c205:=Bool.eq_false_iff.mpr c205;subst c205;rw [if_neg (show ¬ (false=true) by decide)] at H;have H':=Aside0.mk H;clear H;go_wp2;go_roundg kj183
   case measure=>have:=HJ9.out;have:=HJ39.out;have:=HJ63.out;have:=HJ79.out;have:=HJ103.out;have:=HJ160.out;have:=HK7.out;have:=HJ183.out;omega
   case rel=>exact ⟨(wrap64 (x54_7+1)),(by first|rfl|(simp;done)|(simp [*];done)),H',⟨by have:=HJ9.out;have:=HJ39.out;have:=HJ63.out;have:=HJ79.out;have:=HJ103.out;have:=HJ160.out;have:=HK7.out;have:=HJ183.out;omega⟩,⟨Kd.R_mono (uR HO_36) (fun _ hk=>⟨hk.1,⟨hk.2.1,hk.2.2.1⟩⟩)⟩,⟨Kd.R_mono (uR HO_635000) (fun _ hk=>⟨hk.1,⟨hk.2.1,hk.2.2.1⟩⟩)⟩,⟨Kd.R_mono (uR HO_670000) (fun _ hk=>⟨hk.1,⟨hk.2.1,hk.2.2.1⟩⟩)⟩,⟨Kd.R_mono (uR HO_696000) (fun _ hk=>⟨hk.1,⟨hk.2.1,hk.2.2.1⟩⟩)⟩,⟨uK BK634⟩,⟨uK BK669⟩,⟨uK BK695⟩,⟨(vB HB)⟩⟩
end Go.Proofs.Ytkgngggppcmpfaa.L
end
