/- Laws about the given program: a part of the walk of the law FnNumbersToggled; no condition is added to the given statement. -/
import Derived.Test.YtkgngggppcmpfaaKSP2
section
namespace Go.Proofs.Ytkgngggppcmpfaa.L
open Go.RowKit Go.Proofs.YtkgngggppcmpfaaW.PrintWords Go.Proofs.YtkgngggppcmpfaaW.PrintLast Go.Proofs.YtkgngggppcmpfaaW.PrintMore Go.Proofs.Ytkgngggppcmpfaa.X
attribute [local go_sem] max2_int min2_int max_two min_two max_three min_three max_four min_four
set_option linter.unusedVariables false
set_option linter.unusedSimpArgs false
set_option maxHeartbeats 80000000 in
set_option maxRecDepth 100000 in
theorem laws_FnNumbersToggled.last100 : laws_FnNumbersToggled.part100.1:=by
 intros _ _ _ _ _ k A0 c0 l0 A1 c1 l1 r w hu26 HR0 HC0 HR1 HC1 H A3 H t626 t629 t632 t633 A5 H t635 t638 A6 H t639 t642 A7 H t643 t644 t645 A8 H t646 t647 t648 A9 _ w11 gb634 w12 GW634 GE634 Ao13 co13 Ao15 co15 w16 v636 w18 v640 w20 w22 HO628 HO631 HO637 HO641 BK634 HB wc b0 b1 b2 b3 b4 b5 b6 b7 b8 b9 bA bB bD bE bF bG bH bI bJ bK bL bM bN bO bP bQ bR bS bT bU bV bW bX bY bZ c2 c3 c4 c5 c6 c7 c8 c9 cA cB cC cD cE cF cG cH cI cJ cK cL cM cN cO cP cQ cR cS cT cU cV cW cX cY cZ d0 d1 d2 d3 d4 d5 d6 d7 d8 d9 dA dB dC dD dE dF dG dH dI dJ dK dL dM dN dO dP dQ dR dS dT dV dW dX dY dZ e0 e1 e2 e3 e4 e5 e6 e7 e8 e9 eA eB eC eD eE eF eG eH eI eJ eK eL eM eN eO eP eQ eR eS eT eU eV eW eX eY eZ f0 f1 f2 f3 f4 f5 f6 f7 f8 f9 fA fB fC fD fE fF fG fH fI fJ fK fL fM fN fO fP fQ fR fS fT fU fV fW fX fY fZ g0 g1 g2 g3 g4 g5 g6 g7 g8 g9 gB gC gD gE gF gG gH gI gJ gK gL gM gN gO gP gQ gR gS gT gU gV gW gX gY gZ h0 h1 h2 h3 h4 h5 h6 h7 h8 h9 hA hB hC hD hE hF hG hH hI hJ hL hM hN hO hP hQ hR hS hT hU hV hW hX hY hZ i0 i1 i2 i3 i4 i5 i6 i7 i8 i9 iA iB iC iD iE iF iG iH iI iJ iK iL iM iN iO iP iQ iR iS iT iU iV iW iX iY iZ j0 j1 j2 j3 j4 j5 j6 j7 j8 j9 jA jB jC jD jE jF jG jH jI jJ jK jL jM jN jO jP jQ jR jS jT jU jV jW jX jY jZ l2 l3 l4 l5 l6 l7 l8 l9 lA lB lC lD lE lF lG lH lI lJ lK lL lM lN lO lP lQ lR lS lT lU lV lW lX lY lZ m0 m1 m2 m3 m4 m5 m6 m7 m8 m9 mA mB mC mD mE mF mG mH mI mJ mK mL mM mN mO mP mQ mR mS mT mU mV mW mX mY mZ n0 n1 n2 n3 n4 n5 n6 n7 n8 n9 nA nB nC nD nE nF nG nH nI nJ HO_6 HO_9 HO_635000 BK634 HB kj9 HJ9 HC40 _ _
 have H:=HC40.out;clear HC40
 by_cases c41:t638=true
 ·
  subst c41;rw [if_pos rfl] at H;obtain ⟨⟨t650,t653⟩,A42,H⟩:=bs H;(try dsimp only at H)
  obtain ⟨⟨t654,t655⟩,A43,H⟩:=bs H;(try dsimp only at H)
  by_cases c44:t653=true
  ·
   subst c44;rw [if_pos rfl] at H;obtain ⟨t656,A45,H⟩:=bs H;(try dsimp only at H)
   by_cases c46:t656=true
   ·
    subst c46;rw [if_pos rfl] at H
    by_cases c47:t655=true
    ·
     subst c47;rw [if_pos rfl] at H
     by_cases c48:t654=true
     ·
      subst c48;rw [if_pos rfl] at H
      by_cases c49:t643>t644
      ·
       rw [if_pos c49] at H;have c49b0:=decide_eq_true c49;clear c49
       (first|rw [c49b0] |(simp only [i64_w,i32_w];rw [c49b0])|skip)
       exact absurd H (by simp)
      ·
       rw [if_neg c49] at H;have c49b0:=decide_eq_false c49;clear c49
       (first|rw [c49b0] |(simp only [i64_w,i32_w];rw [c49b0])|skip)
       by_cases c50:0≤t633
       ·
        rw [if_pos c50] at H;have c50b0:=decide_eq_true c50;clear c50
        by_cases c51:t633<(t629.length:Int)
        ·
         rw [if_pos c51] at H;have c51b0:=decide_eq_true c51;clear c51
         by_cases c52:t633<(t635.length:Int)
         ·
          rw [if_pos c52] at H;have c52b0:=decide_eq_true c52;clear c52
          by_cases c53:(wrap64 ((rd t629 t633)+(rd t635 t633)))=(wrap64 (t643+t644))
          ·
           rw [if_pos c53] at H;have c53b0:((wrap64 ((rd t629 t633)+(rd t635 t633)))==(wrap64 (t643+t644)))=true:=beq_iff_eq.mpr c53;have c53b1:((wrap64 ((rd t629 t633)+(rd t635 t633))) !=(wrap64 (t643+t644)))=false:=bne_eq_false_iff_eq.mpr c53;clear c53;have H':=Aside0.mk H;clear H;have hcz54_0:=bC BK634;have hfz54_0:=blk_frozen BK634.out 0;obtain ⟨Ao55,co55,eo55⟩:=Kd.R_slice HO_9.out;subst eo55
           try go_wp2_with ((with_reducible refine gt ?_);first|(refine gA (some 148) Try.func20 #[.agg #[.slice Ao13 t626.length co13], .slice Ao55 t635.length co55, .int .i64 t632, .int .i64 t633] ?_;(with_reducible refine (impl_ToggleNumber.calls kj9 _ _ t626 _ _ t635 t632 t633 t650 true _ (uE HO_635000) ?side2 (uE HO_9) ?side4 A42.out).mono ?_);(case side2=>exact (Kd.R_reads' HO_635000.out).2.1);(case side4=>exact (Kd.R_reads' HO_9.out).2.1);rintro e w56 ⟨v651,rfl,ho0,hb⟩;refine ⟨_,rfl,?_⟩;have HO652:=Aside0.mk (Kd.R_lower (Kd.R_new' (Kd.R_new' (Kd.R_new' ho0 (Kd.R_lt (uR HO_6))) (Kd.R_lt (uR HO_9))) (Kd.R_lt (uR HO_635000))) (below_size (vB HB)));replace HO_6:=Aside0.mk (Kd.R_elder' (uR HO_6) (Kd.R_base ho0) hb);replace HO_9:=Aside0.mk (Kd.R_elder' (uR HO_9) (Kd.R_base ho0) hb);replace HO_635000:=Aside0.mk (Kd.R_elder' (uR HO_635000) (Kd.R_base ho0) hb);replace BK634:=Aside0.mk (blk_below (uK BK634) hb);replace HB:=Aside0.mk (below_step (vB HB) hb);(try clear hb ho0);have hcz57_0:=bC BK634;have hfz57_0:=blk_frozen BK634.out 0)|(refine gA (some 155) Try.func17 #[.agg #[.slice Ao13 t626.length co13], .slice Ao55 t635.length co55, .int .i64 t632] ?_;(with_reducible refine (impl_IsArray.calls kj9 _ _ t626 _ _ t635 t632 true true _ (uE HO_635000) ?side2 (uE HO_9) ?side4 A43.out).mono ?_);(case side2=>exact (Kd.R_reads' HO_635000.out).2.1);(case side4=>exact (Kd.R_reads' HO_9.out).2.1);rintro e w58 ⟨rfl,hb⟩;refine ⟨_,rfl,?_⟩;replace HO_6:=Aside0.mk (Kd.R_below (uR HO_6) hb);replace HO_9:=Aside0.mk (Kd.R_below (uR HO_9) hb);replace HO_635000:=Aside0.mk (Kd.R_below (uR HO_635000) hb);replace HO652:=Aside0.mk (Kd.R_below (uR HO652) hb);replace BK634:=Aside0.mk (blk_below (uK BK634) hb);replace HB:=Aside0.mk (below_step (vB HB) hb);(try clear hb)))
           replace HO_6:=Aside0.mk (Kd.R_drew HO_6.out);replace HO_9:=Aside0.mk (Kd.R_drew HO_9.out);replace HO_635000:=Aside0.mk (Kd.R_drew HO_635000.out);replace HO652:=Aside0.mk (Kd.R_drew HO652.out);replace BK634:=Aside0.mk (blk_drew BK634.out);replace HB:=Aside0.mk (below_drew1 HB.out);obtain ⟨Ao60,co60,eo60⟩:=Kd.R_slice HO652.out
           (first|subst eo60|(injection eo60 with f1_ f2_ f3_;have f4_:=f1_.symm;have f5_:=f3_.symm;clear f1_ f2_ f3_;subst f4_;subst f5_))
           have p657:0≤(t633:Int):=of_decide_eq_true (by first|(with_reducible assumption)|assumption);have q657:t633<(t629.length:Int):=of_decide_eq_true (by first|(with_reducible assumption)|assumption);obtain ⟨ad657,e657,hx657_0⟩:=Kd.at_int (Kd.R_reads' HO_6.out).2.2 t633 p657 q657;cases e657;replace p657:=eq_true p657;replace q657:=eq_true q657;have p658:0≤(t633:Int):=of_decide_eq_true (by first|(with_reducible assumption)|assumption);have q658:t633<(t635.length:Int):=of_decide_eq_true (by first|(with_reducible assumption)|assumption);obtain ⟨ad658,e658,hx658_0⟩:=Kd.at_int (Kd.R_reads' HO_9.out).2.2 t633 p658 q658;cases e658;replace p658:=eq_true p658;replace q658:=eq_true q658;refine sU (n:=36) (S:=fun w'=>w'.cell? (ad657.add (t633).toNat)=some (.int .i64 (rd t629 t633))∧w'.cell? (ad658.add (t633).toNat)=some (.int .i64 (rd t635 t633))) (ds:= []) ⟨hx657_0,hx658_0⟩ (fun hHeld=> ?_);refine with_tabW laws_FnNumbersToggled.tab13 laws_FnNumbersToggled.bits13 (fun HT_ HW_=> ?_);generalize w58.drew=w59 at HO_6 HO_9 HO_635000 HO652 BK634 HB hx657_0 hx658_0 hHeld ⊢;refine pU 0 158 ?_;refine pU 1 159 ?_;refine pU 2 160 ?_;refine pU 3 161 ?_;refine pU 4 162 ?_;refine oU 5 (some 163) fun K hK=> ?_
           refine goes_ Try.func12 (by kernel_rfl) rfl #[.slice Ao60 t650.length co60, .slice (some ad657) t629.length co15] (by rfl) rfl rfl (by (try simp only [List.map_toArray,List.map_cons,List.map_nil]);first|done|rfl|(simp only [List.length_drop,List.length_take];rfl)) ?_
           with_reducible refine (laws_nSame.calls kj9 _ _ t650 _ _ t629 true _ ?side1 ?side2 ?side3 ?side4 A45.out).mono ?_
           (case side1=>repeat (first|exact (Kd.R_reads' HO652.out).2.2|(with_reducible refine Kd.C_alloc ?_ _)|(with_reducible refine Kd.C_drewN ?_ _)|(with_reducible refine Kd.C_drew ?_)))
           (case side2=>exact (Kd.R_reads' HO652.out).2.1)
           (case side3=>repeat (first|exact (Kd.R_reads' HO_6.out).2.2|(with_reducible refine Kd.C_alloc ?_ _)|(with_reducible refine Kd.C_drewN ?_ _)|(with_reducible refine Kd.C_drew ?_)))
           (case side4=>exact (Kd.R_reads' HO_6.out).2.1)
           rintro e w' ⟨rfl,⟨nd,rfl⟩⟩;refine ⟨_,rfl,?_⟩;refine hK.out _ _ ⟨hHeld.1,hHeld.2⟩ (fun hHeld=> ?_);clear hK K;refine nU 163 ?_;refine pU 6 164 ?_;refine pU 7 165 ?_;refine pU 8 166 ?_;refine pU 9 167 ?_;refine pU 10 168 ?_;refine pU 11 169 ?_;refine pU 12 170 ?_;refine pU 13 171 ?_;refine pU 14 172 ?_;refine pU 15 173 ?_;refine pU 16 174 ?_;refine pU 17 175 ?_;refine pU 18 176 ?_;refine pU 19 177 ?_;refine pU 20 178 ?_;refine pU 21 179 ?_;refine pU 22 180 ?_;refine pU 23 181 ?_;refine pU 24 182 ?_;refine pU 26 184 ?_;refine pU 27 185 ?_;refine pU 28 186 ?_;refine pU 31 189 ?_;refine pU 32 190 ?_;refine pU 33 191 ?_;refine tW 25 183 hHeld ?_;refine tW 29 187 hHeld ?_;refine pU 30 188 ?_;refine pU 34 192 ?_;refine pU 35 193 ?_;refine dU ?_
           try go_wp2
           go_meet
           case rel=>exact ⟨_,H',⟨by have:=HJ9.out;first|omega|exact Nat.le_refl _⟩,⟨Kd.R_mono (uR HO_635000) (fun _ hk=>trivial)⟩,⟨uK BK634⟩,⟨(vB HB)⟩⟩
          ·
           rw [if_neg c53] at H;exact absurd H (by simp)
         ·
          rw [if_neg c52] at H;exact absurd H (by simp)
        ·
         rw [if_neg c51] at H;exact absurd H (by simp)
       ·
        rw [if_neg c50] at H;exact absurd H (by simp)
     ·
      replace c48:=Bool.eq_false_iff.mpr c48;subst c48;rw [if_neg (show ¬ (false=true) by decide)] at H;exact absurd H (by simp)
    ·
     replace c47:=Bool.eq_false_iff.mpr c47;subst c47;rw [if_neg (show ¬ (false=true) by decide)] at H;exact absurd H (by simp)
   ·
    replace c46:=Bool.eq_false_iff.mpr c46;subst c46;rw [if_neg (show ¬ (false=true) by decide)] at H;exact absurd H (by simp)
  ·
   replace c44:=Bool.eq_false_iff.mpr c44;subst c44;rw [if_neg (show ¬ (false=true) by decide)] at H;exact absurd H (by simp)
 ·
  replace c41:=Bool.eq_false_iff.mpr c41;subst c41;rw [if_neg (show ¬ (false=true) by decide)] at H;have H':=Aside0.mk H;clear H;go_wp2
  go_meet
  case rel=>exact ⟨_,H',⟨by have:=HJ9.out;first|omega|exact Nat.le_refl _⟩,⟨Kd.R_mono (uR HO_635000) (fun _ hk=>trivial)⟩,⟨uK BK634⟩,⟨(vB HB)⟩⟩
end Go.Proofs.Ytkgngggppcmpfaa.L
end
