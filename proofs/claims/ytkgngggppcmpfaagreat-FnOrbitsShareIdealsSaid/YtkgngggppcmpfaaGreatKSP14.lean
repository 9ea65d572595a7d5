/- Laws about the given program: a part of the walk of the law FnOrbitsShareIdeals; no condition is added to the given statement. -/
import Derived.Test.YtkgngggppcmpfaaGreatKSP13
section
namespace Go.Proofs.YtkgngggppcmpfaaGreat.L
open Go.RowKit Go.Proofs.YtkgngggppcmpfaaGreatW.PrintWords Go.Proofs.YtkgngggppcmpfaaGreatW.PrintLast Go.Proofs.YtkgngggppcmpfaaGreatW.PrintMore Go.Proofs.YtkgngggppcmpfaaGreat.X
attribute [local go_sem] Q2 Q4 Qbd Qbe Qz Q0 Q3 Q5
set_option linter.unusedVariables false
set_option linter.unusedSimpArgs false
set_option maxHeartbeats 80000000 in
set_option maxRecDepth 100000 in
theorem laws_FnOrbitsShareIdeals.last502 : laws_FnOrbitsShareIdeals.part502.1:=by
 intros wc _ _ _ _ _ _ _ _ k A0 c0 l0 A1 c1 l1 r w hu26 HR0 HC0 HR1 HC1 H A3 H t784 A5 H t788 t791 A6 H t792 t795 A7 H t796 t799 A8 H t800 t803 A9 H t804 t805 A10 H t806 t807 A11 _ w13 gb787 w14 GW787 GE787 Ao15 co15 w17 v789 w19 v793 w21 v797 w23 v801 w25 w27 HO786 HO790 HO794 HO798 HO802 BK787 HB HO_6 HO_10 HO_788000 BK787 HB kj11 HJ11 uL4 uL18 uL19 uL20 uL21 uL22 uL23 uL24 uL25 uL26 uL27 uL149 uL150 uL151 uL190 uL191 uL192 kj56 HJ56 H t834 t837 A124 H t839 t841 t842 A126 w128 gb838 w129 GW838 GE838 NB787_838 NB838_787 Ao130 co130 hnb131 hnc131 w133 w135 HO_788000 HO836 BK787 BK838 HB wc uM58 uM59 uM60 uM61 uM62 uM63 uM64 uM65 uM66 uM67 uM68 uM69 uM70 uM71 uM72 uM73 uM74 uM75 uM76 uM77 uM78 uM79 uM80 uM81 uM82 uM83 uM84 uM85 uM86 uM87 uM88 uM89 uM90 uM91 uM92 uM93 uM94 uM95 uM96 uM97 uM98 uM99 uM100 uM101 uM102 uM103 uM104 uM105 uM106 uM107 uM108 uM109 uM110 uM111 uM112 uM113 uM114 uM115 uM116 uM117 uM118 uM119 uM120 uM121 uM122 uM123 uM124 uM125 uM126 uM127 uM128 uM129 uM130 uM131 uM132 uM133 uM134 uM135 uM136 uM137 uM138 uM139 uM140 uM141 uM142 uM143 uM144 uM145 uM146 uM147 uM148 uM152 uM153 uM154 uM155 uM156 uM157 uM158 uM159 uM160 uM161 uM162 uM163 uM164 uM165 uM166 uM167 uM168 uM169 uM170 uM171 uM172 uM173 uM174 uM175 uM176 uM177 uM178 uM179 uM180 uM181 uM182 uM183 uM184 uM185 uM186 uM187 uM188 uM189 uM193 uM194 uM195 uM196 uM197 uM198 uM199 uM200 uM201 uM202 uM203 uM204 uM205 uM206 uM207 uM208 uM209 uM210 uM211 uM212 uM213 uM214 uM215 uM216 uM217 uM218 uM219 uM220 uM221 uM222 uM223 uM224 uM225 uM226 uM227 uM228 uM229 uM230 uM231 uM232 uM233 uM234 uM235 uM236 uM237 uM238 uM239 uM240 uM241 uM242 uM243 uM244 uM245 uM246 uM247 uM248 uM249 uM250 uM251 uM252 uM253 uM254 uM255 uM256 uM257 uM258 uM259 uM260 uM261 uM262 uM263 uM266 uM267 uM268 uM269 uM270 uM274 uM275 uM276 uM277 uM278 uM279 uM280 uM281 uM282 uM283 uM284 uM285 uM286 uM287 uM288 uM289 uM290 uM291 uM292 uM293 uM294 uM295 uM296 uM297 uM298 uM299 uM300 uM301 uM302 uM303 uM304 uM305 uM306 uM307 uM308 uM309 uM310 uM311 uM312 uM313 uM314 uM315 uM316 uM317 uM318 uM319 uM320 uM321 uM322 uM323 uM324 uM325 uM326 uM327 uM328 uM329 uM330 uM331 uM332 uM333 uM334 uM335 uM336 uM337 uM338 uM339 uM340 uM341 uM342 uM343 uM344 uM345 uM346 uM347 uM348 uM349 uM350 uM351 uM352 uM353 uM354 uM355 uM356 uM357 uM358 uM359 uM360 uM361 uM362 uM363 uM364 uM365 uM366 uM367 uM368 uM369 uM370 uM371 uM372 uM373 uM374 uM375 uM376 uM377 uM378 uM379 uM380 uM381 uM382 kj126 HJ126 _ A125 H _ H t843 t846 A140 H' hnb141 hnc141 hcz142_0 hfz142_0 w143 BK787 BK838 HB Ao144 co144 HO845 HO_788000 HO_839000 _ gk wr uO4 uO36 uO38 uO39 uO40 uO273 uO274 uO275 uO276 uO277 uO278 uO279 uO280 uO281 uO282 uO283 uO284 uO285 uO286 uO287 uO288 uO289 uO290 uO291 hrel _ _
 clear H'
 try clear hcz142_0 hfz142_0
 obtain ⟨x36_4,x273_4,rfl,rfl,HA,HK4,HO_271,HO_788000,HO_839000,BK787,BK838,HB⟩:=hrel;cases gk with
 |zero=>exact absurd HA.out (by simp [laws_FnOrbitsShareIdeals.l2])
 |succ k4=>
  have H:=HA.out;clear HA;simp only [laws_FnOrbitsShareIdeals.l2] at H
  by_cases c145:x273_4<(t843.length:Int)
  ·
   rw [if_pos c145] at H;have c145b0:=decide_eq_true c145;clear c145
   (first|rw [c145b0] |(simp only [Qcw,Qed];rw [c145b0])|skip)
   by_cases c146:0≤x273_4
   ·
    rw [if_pos c146] at H;have c146b0:=decide_eq_true c146;clear c146
    by_cases c147:x273_4<(t843.length:Int)
    ·
     rw [if_pos c147] at H;have c147b0:=decide_eq_true c147;clear c147;obtain ⟨⟨t848,t849⟩,A148,H⟩:=bs H;(try dsimp only at H)
     by_cases c149:t849=true
     ·
      subst c149;rw [if_pos rfl] at H
      by_cases c150:t848=(rd t843 x273_4)
      ·
       rw [if_pos c150] at H;have c150b0:(t848==(rd t843 x273_4))=true:=beq_iff_eq.mpr c150;have c150b1:(t848 !=(rd t843 x273_4))=false:=bne_eq_false_iff_eq.mpr c150;clear c150;have H':=Aside0.mk H;clear H;have p847:0≤(x273_4:Int):=of_decide_eq_true (by first|(with_reducible assumption)|assumption);have q847:x273_4<(t843.length:Int):=of_decide_eq_true (by first|(with_reducible assumption)|assumption);obtain ⟨ad847,e847,hx847_0⟩:=Kd.at_int (Kd.R_reads' HO_271.out).2.2 x273_4 p847 q847;cases e847;replace p847:=eq_true p847;replace q847:=eq_true q847;have hnb151:=NB838_787.out;have hnc151:=NB787_838.out;have hcz152_0:=bC BK838;have hfz152_0:=Qe BK838.out 0
       ·
        go_wp2_with (first|(go_at_call 18;(with_reducible refine (Qb2.calls k4 _ _ t834 (rd t843 x273_4) t837 t848 true _ (uE HO_839000) ?side2 A148.out).mono ?_);(case side2=>exact (Kd.R_reads' HO_839000.out).2.1);rintro e w153 ⟨rfl,hb⟩;replace HO_271:=Aside0.mk (Kd.R_below (uR HO_271) hb);replace HO_788000:=Aside0.mk (Kd.R_below (uR HO_788000) hb);replace HO_839000:=Aside0.mk (Kd.R_below (uR HO_839000) hb);replace BK787:=Aside0.mk (Qb (uK BK787) hb);replace BK838:=Aside0.mk (Qb (uK BK838) hb);replace HB:=Aside0.mk (Qc (vB HB) hb);(try clear hb)))
        go_roundg k4
        case measure=>have:=HJ11.out;have:=HJ56.out;have:=HJ126.out;have:=HK4.out;omega
        case rel=>exact ⟨(wrap64 (x36_4+1)),(wrap64 (x273_4+1)),(by first|rfl|(simp;done)|(simp [*];done)),(by first|rfl|(simp;done)|(simp [*];done)),H',⟨by have:=HJ11.out;have:=HJ56.out;have:=HJ126.out;have:=HK4.out;omega⟩,⟨uR HO_271⟩,⟨uR HO_788000⟩,⟨uR HO_839000⟩,⟨uK BK787⟩,⟨uK BK838⟩,⟨(vB HB)⟩⟩
      ·
       rw [if_neg c150] at H;have c150b0:(t848==(rd t843 x273_4))=false:=beq_eq_false_iff_ne.mpr c150;have c150b1:(t848 !=(rd t843 x273_4))=true:=bne_iff_ne.mpr c150;have H':=Aside0.mk H;clear H;have p847:0≤(x273_4:Int):=of_decide_eq_true (by first|(with_reducible assumption)|assumption);have q847:x273_4<(t843.length:Int):=of_decide_eq_true (by first|(with_reducible assumption)|assumption);obtain ⟨ad847,e847,hx847_0⟩:=Kd.at_int (Kd.R_reads' HO_271.out).2.2 x273_4 p847 q847;cases e847;replace p847:=eq_true p847;replace q847:=eq_true q847;have hnb154:=NB838_787.out;have hnc154:=NB787_838.out;have hcz155_0:=bC BK838;have hfz155_0:=Qe BK838.out 0
       ·
        go_wp2_with (first|(go_at_call 18;(with_reducible refine (Qb2.calls k4 _ _ t834 (rd t843 x273_4) t837 t848 true _ (uE HO_839000) ?side2 A148.out).mono ?_);(case side2=>exact (Kd.R_reads' HO_839000.out).2.1);rintro e w156 ⟨rfl,hb⟩;replace HO_271:=Aside0.mk (Kd.R_below (uR HO_271) hb);replace HO_788000:=Aside0.mk (Kd.R_below (uR HO_788000) hb);replace HO_839000:=Aside0.mk (Kd.R_below (uR HO_839000) hb);replace BK787:=Aside0.mk (Qb (uK BK787) hb);replace BK838:=Aside0.mk (Qb (uK BK838) hb);replace HB:=Aside0.mk (Qc (vB HB) hb);(try clear hb)))
        go_roundg k4
        case measure=>have:=HJ11.out;have:=HJ56.out;have:=HJ126.out;have:=HK4.out;omega
        case rel=>exact ⟨(x36_4),(wrap64 (x273_4+1)),(by first|rfl|(simp;done)|(simp [*];done)),(by first|rfl|(simp;done)|(simp [*];done)),H',⟨by have:=HJ11.out;have:=HJ56.out;have:=HJ126.out;have:=HK4.out;omega⟩,⟨uR HO_271⟩,⟨uR HO_788000⟩,⟨uR HO_839000⟩,⟨uK BK787⟩,⟨uK BK838⟩,⟨(vB HB)⟩⟩
     ·
      replace c149:=Bool.eq_false_iff.mpr c149;subst c149;rw [if_neg (show ¬ (false=true) by decide)] at H;exact absurd H (by simp)
    ·
     rw [if_neg c147] at H;exact absurd H (by simp)
   ·
    rw [if_neg c146] at H;exact absurd H (by simp)
  ·
   rw [if_neg c145] at H;have c145b0:=decide_eq_false c145;clear c145
   (first|rw [c145b0] |(simp only [Qcw,Qed];rw [c145b0])|skip)
   by_cases c157:t846=true
   ·
    subst c157;rw [if_pos rfl] at H
    by_cases c158:x36_4=t839
    ·
     rw [if_pos c158] at H;have c158b0:(x36_4==t839)=true:=beq_iff_eq.mpr c158;have c158b1:(x36_4 !=t839)=false:=bne_eq_false_iff_eq.mpr c158;clear c158;have H':=Aside0.mk H;clear H;go_wp2
     repeat (go_quiet (fail);try go_wp2)
     go_meet
     case rel=>exact ⟨_,H',⟨by have:=HJ11.out;have:=HJ56.out;have:=HJ126.out;have:=HK4.out;first|omega|exact Nat.le_refl _⟩,⟨Kd.R_mono (uR HO_788000) (fun _ hk=>hk.2)⟩,⟨Kd.R_mono (uR HO_839000) (fun _ hk=>hk.2)⟩,⟨uK BK787⟩,⟨uK BK838⟩,⟨(vB HB)⟩⟩
    ·
     rw [if_neg c158] at H;exact absurd H (by simp)
   ·
    replace c157:=Bool.eq_false_iff.mpr c157;subst c157;rw [if_neg (show ¬ (false=true) by decide)] at H;exact absurd H (by simp)
end Go.Proofs.YtkgngggppcmpfaaGreat.L
end
