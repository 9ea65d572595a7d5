/- Laws about the given program: a part of the walk of the law FnOrbitsShareIdeals; no condition is added to the given statement. -/
import Derived.Test.YtkgngggppcmpfaaGreatKSP2
section
namespace Go.Proofs.YtkgngggppcmpfaaGreat.L
open Go.RowKit Go.Proofs.YtkgngggppcmpfaaGreatW.PrintWords Go.Proofs.YtkgngggppcmpfaaGreatW.PrintLast Go.Proofs.YtkgngggppcmpfaaGreatW.PrintMore Go.Proofs.YtkgngggppcmpfaaGreat.X
attribute [local go_sem] Q2 Q4 Qbd Qbe Qz Q0 Q3 Q5
set_option linter.unusedVariables false
set_option linter.unusedSimpArgs false
set_option maxHeartbeats 80000000 in
set_option maxRecDepth 100000 in
noncomputable def laws_FnOrbitsShareIdeals.part164 : PSigma fun G164 : Prop=>(Aside0 (Aside0 (Aside0 G164)) → laws_FnOrbitsShareIdeals.part126.1):=by
 apply PSigma.mk
 case snd=>
  intro hG164
  intros _ _ _ _ k A0 c0 l0 A1 c1 l1 r w hu26 HR0 HC0 HR1 HC1 H A3 H t784 A5 H t788 t791 A6 H t792 t795 A7 H t796 t799 A8 H t800 t803 A9 H t804 t805 A10 H t806 t807 A11 _ w13 gb787 w14 GW787 GE787 Ao15 co15 w17 v789 w19 v793 w21 v797 w23 v801 w25 w27 HO786 HO790 HO794 HO798 HO802 BK787 HB wc uC58 uC59 uC60 uC61 uC62 uC63 uC64 uC65 uC66 uC67 uC68 uC69 uC70 uC71 uC72 uC73 uC74 uC75 uC76 uC77 uC78 uC79 uC80 uC81 uC82 uC83 uC84 uC85 uC86 uC87 uC88 uC89 uC90 uC91 uC92 uC93 uC94 uC95 uC96 uC97 uC98 uC99 uC100 uC101 uC102 uC103 uC104 uC105 uC106 uC107 uC108 uC109 uC110 uC111 uC112 uC113 uC114 uC115 uC116 uC117 uC118 uC119 uC120 uC121 uC122 uC123 uC124 uC125 uC126 uC129 uC130 uC131 uC132 uC133 uC134 uC135 uC136 uC137 uC138 uC139 uC140 uC141 uC142 uC143 uC144 uC145 uC146 uC147 uC148 uC152 uC153 uC154 uC155 uC156 uC157 uC158 uC159 uC160 uC161 uC162 uC163 uC164 uC165 uC166 uC167 uC168 uC169 uC170 uC171 uC172 uC173 uC174 uC175 uC176 uC177 uC178 uC179 uC180 uC181 uC182 uC183 uC184 uC185 uC186 uC187 uC188 uC189 uC193 uC194 uC195 uC196 uC197 uC198 uC199 uC200 uC201 uC202 uC203 uC204 uC205 uC206 uC207 uC208 uC209 uC210 uC211 uC212 uC213 uC214 uC215 uC216 uC217 uC218 uC219 uC220 uC221 uC222 uC223 uC224 uC225 uC226 uC227 uC228 uC229 uC230 uC231 uC232 uC233 uC234 uC235 uC236 uC237 uC238 uC239 uC240 uC241 uC242 uC243 uC244 uC245 uC246 uC247 uC248 uC249 uC250 uC251 uC252 uC253 uC254 uC255 uC256 uC257 uC258 uC259 uC260 uC261 uC262 uC263 uC264 uC265 uC266 uC267 uC268 uC269 uC270 uC274 uC275 uC276 uC277 uC278 uC279 uC280 uC281 uC282 uC283 uC284 uC285 uC286 uC287 uC288 uC289 uC290 uC291 uC292 uC293 uC294 uC295 uC296 uC297 uC298 uC299 uC300 uC301 uC302 uC303 uC304 uC305 uC306 uC307 uC308 uC309 uC310 uC311 uC312 uC313 uC314 uC315 uC316 uC317 uC318 uC319 uC320 uC321 uC322 uC323 uC324 uC325 uC326 uC327 uC328 uC329 uC330 uC331 uC332 uC333 uC334 uC335 uC336 uC337 uC338 uC339 uC340 uC341 uC342 uC343 uC344 uC345 uC346 uC347 uC348 uC349 uC350 uC351 uC352 uC353 uC354 uC355 uC356 uC357 uC358 uC359 uC360 uC361 uC362 uC363 uC364 uC365 uC366 uC367 uC368 uC369 uC370 uC371 uC372 uC373 uC374 uC375 uC376 uC377 uC378 uC379 uC380 uC381 uC382 HO_6 HO_10 HO_788000 BK787 HB kj11 HJ11 HC57 _ _
  have H:=HC57.out;clear HC57
  by_cases c58:t791=true
  ·
   subst c58;rw [if_pos rfl] at H;obtain ⟨⟨t810,t811⟩,A59,H⟩:=bs H;(try dsimp only at H)
   have HC60:=Aside0.mk H;clear H;have hcz61_0:=bC BK787;have hfz61_0:=Qe BK787.out 0
   go_upto_region 14 with (first|(go_at_call 42;(with_reducible refine (Qc3.calls kj11 _ _ t784 t810 t811 _ (uE HO_788000) ?side2 A59.out).mono ?_);(case side2=>exact (Kd.R_reads' HO_788000.out).2.1);rintro e w62 ⟨rfl,hb⟩;replace HO_6:=Aside0.mk (Kd.S_below (uS HO_6) hb);replace HO_10:=Aside0.mk (Kd.R_below (uR HO_10) hb);replace HO_788000:=Aside0.mk (Kd.R_below (uR HO_788000) hb);replace BK787:=Aside0.mk (Qb (uK BK787) hb);replace HB:=Aside0.mk (Qc (vB HB) hb);(try clear hb)))
   (try simp only [Act.put,List.setIfInBounds_toArray,List.set_cons_zero,List.set_cons_succ])
   go_cut [148] (fun v148 wc=> ∃ (kq:Nat) (x148_59:Bool),v148= .bool x148_59∧Aside0 (laws_FnOrbitsShareIdeals.j1 kq l1 t788 t796 t804 t805 x148_59 t784=some r)∧Aside0 (kq≤kj11)∧Aside0 (Kd.S (Kd.slice 3 (Kd.int .i64)) 24 wc w.heap.size (fun k_=>some k_≠(v797:Value).ownBlock∧some k_≠((.slice Ao15 t784.length co15):Value).ownBlock) v789 t788)∧Aside0 (Kd.R (Kd.int .i64) 3 wc w.heap.size (fun k_=>some k_≠((.slice Ao15 t784.length co15):Value).ownBlock) v797 t796)∧Aside0 (Kd.R (Kd.int .i64) 3 wc w.heap.size (fun k_=>some k_≠(v797:Value).ownBlock) (.slice Ao15 t784.length co15) t784)∧Aside0 (wc.heap[gb787]? =some (.cells #[(.slice Ao15 t784.length co15)] 26 (0,0)))∧Aside0 (Below w.heap.size w wc))
   case first=>
    have H:=HC60.out;clear HC60
    by_cases c63:t811=true
    ·
     (try clear hG164)
     subst c63;rw [if_pos rfl] at H;obtain ⟨t812,A64,H⟩:=bs H;(try dsimp only at H)
     by_cases c65:t812=t810
     ·
      (try clear hG164)
      rw [if_pos c65] at H;have c65b0:(t812==t810)=true:=beq_iff_eq.mpr c65;have c65b1:(t812 !=t810)=false:=bne_eq_false_iff_eq.mpr c65;clear c65
      (first|rw [c65b0] |(simp only [Qcw,Qed];rw [c65b0])|skip)
      have H':=Aside0.mk H;clear H;obtain ⟨Ao66,co66,eo66⟩:=Kd.R_slice HO_10.out;subst eo66
      ·
       (try clear hG164)
       go_wp2_with (first|(go_at_call 43;(with_reducible refine (Qci.calls kj11 _ _ t796 t812 _ (uE HO_10) ?side2 A64.out).mono ?_);(case side2=>exact (Kd.R_reads' HO_10.out).2.1);rintro e w' ⟨rfl,⟨nd,rfl⟩⟩;(try first|exact ⟨rfl,_,World.drewN_drewN _ _ _⟩|exact ⟨rfl,_,Eq.trans (World.drewN_drewN _ _ _) (congrArg (World.drewN _) (Nat.add_assoc _ _ _))⟩);obtain ⟨Ao67,co67,eo67⟩:=Kd.S_slice HO_6.out;subst eo67))
       go_meet
       case rel=>exact ⟨_,(((t788.length:Int) !=(t796.length:Int))),(by first|rfl|(simp;done)|(simp [*];done)),H',⟨by have:=HJ11.out;first|omega|exact Nat.le_refl _⟩,⟨uS HO_6⟩,⟨uR HO_10⟩,⟨uR HO_788000⟩,⟨uK BK787⟩,⟨(vB HB)⟩⟩
     ·
      (try clear hG164)
      rw [if_neg c65] at H;have c65b0:(t812==t810)=false:=beq_eq_false_iff_ne.mpr c65;have c65b1:(t812 !=t810)=true:=bne_iff_ne.mpr c65
      (first|rw [c65b0] |(simp only [Qcw,Qed];rw [c65b0])|skip)
      have H':=Aside0.mk H;clear H;obtain ⟨Ao68,co68,eo68⟩:=Kd.R_slice HO_10.out;subst eo68
      ·
       (try clear hG164)
       go_wp2_with (first|(go_at_call 43;(with_reducible refine (Qci.calls kj11 _ _ t796 t812 _ (uE HO_10) ?side2 A64.out).mono ?_);(case side2=>exact (Kd.R_reads' HO_10.out).2.1);rintro e w' ⟨rfl,⟨nd,rfl⟩⟩;(try first|exact ⟨rfl,_,World.drewN_drewN _ _ _⟩|exact ⟨rfl,_,Eq.trans (World.drewN_drewN _ _ _) (congrArg (World.drewN _) (Nat.add_assoc _ _ _))⟩)))
       go_meet
       case rel=>exact ⟨_,(true),(by first|rfl|(simp;done)|(simp [*];done)),H',⟨by have:=HJ11.out;first|omega|exact Nat.le_refl _⟩,⟨uS HO_6⟩,⟨uR HO_10⟩,⟨uR HO_788000⟩,⟨uK BK787⟩,⟨(vB HB)⟩⟩
    ·
     (try clear hG164)
     replace c63:=Bool.eq_false_iff.mpr c63;subst c63;rw [if_neg (show ¬ (false=true) by decide)] at H;have H':=Aside0.mk H;clear H;go_wp2
     repeat (go_quiet (fail);try go_wp2)
     go_meet
     case rel=>exact ⟨_,(true),(by first|rfl|(simp;done)|(simp [*];done)),H',⟨by have:=HJ11.out;first|omega|exact Nat.le_refl _⟩,⟨uS HO_6⟩,⟨uR HO_10⟩,⟨uR HO_788000⟩,⟨uK BK787⟩,⟨(vB HB)⟩⟩
   case rest=>
    clear HC60
    try clear hcz61_0 hfz61_0
    revert uC382 uC381 uC380 uC379 uC378 uC377 uC376 uC375 uC374 uC373 uC372 uC371 uC370 uC369 uC368 uC367 uC366 uC365 uC364 uC363 uC362 uC361 uC360 uC359 uC358 uC357 uC356 uC355 uC354 uC353 uC352 uC351 uC350 uC349 uC348 uC347 uC346 uC345 uC344 uC343 uC342 uC341 uC340 uC339 uC338 uC337 uC336 uC335 uC334 uC333 uC332 uC331 uC330 uC329 uC328 uC327 uC326 uC325 uC324 uC323 uC322 uC321 uC320 uC319 uC318 uC317 uC316 uC315 uC314 uC313 uC312 uC311 uC310 uC309 uC308 uC307 uC306 uC305 uC304 uC303 uC302 uC301 uC300 uC299 uC298 uC297 uC296 uC295 uC294 uC293 uC292 uC291 uC290 uC289 uC288 uC287 uC286 uC285 uC284 uC283 uC282 uC281 uC280 uC279 uC278 uC277 uC276 uC275 uC274 uC270 uC269 uC268 uC267 uC266 uC265 uC264 uC263 uC262 uC261 uC260 uC259 uC258 uC257 uC256 uC255 uC254 uC253 uC252 uC251 uC250 uC249 uC248 uC247 uC246 uC245 uC244 uC243 uC242 uC241 uC240 uC239 uC238 uC237 uC236 uC235 uC234 uC233 uC232 uC231 uC230 uC229 uC228 uC227 uC226 uC225 uC224 uC223 uC222 uC221 uC220 uC219 uC218 uC217 uC216 uC215 uC214 uC213 uC212 uC211 uC210 uC209 uC208 uC207 uC206 uC205 uC204 uC203 uC202 uC201 uC200 uC199 uC198 uC197 uC196 uC195 uC194 uC193 uC189 uC188 uC187 uC186 uC185 uC184 uC183 uC182 uC181 uC180 uC179 uC178 uC177 uC176 uC175 uC174 uC173 uC172 uC171 uC170 uC169 uC168 uC167 uC166 uC165 uC164 uC163 uC162 uC161 uC160 uC159 uC158 uC157 uC156 uC155 uC154 uC153 uC152 uC148 uC147 uC146 uC145 uC144 uC143 uC142 uC141 uC140 uC139 uC138 uC137 uC136 uC135 uC134 uC133 uC132 uC131 uC130 uC129 uC126 uC125 uC124 uC123 uC122 uC121 uC120 uC119 uC118 uC117 uC116 uC115 uC114 uC113 uC112 uC111 uC110 uC109 uC108 uC107 uC106 uC105 uC104 uC103 uC102 uC101 uC100 uC99 uC98 uC97 uC96 uC95 uC94 uC93 uC92 uC91 uC90 uC89 uC88 uC87 uC86 uC85 uC84 uC83 uC82 uC81 uC80 uC79 uC78 uC77 uC76 uC75 uC74 uC73 uC72 uC71 uC70 uC69 uC68 uC67 uC66 uC65 uC64 uC63 uC62 uC61 uC60 uC59 uC58 u382 u381 u380 u379 u378 u377 u376 u375 u374 u373 u372 u371 u370 u369 u368 u367 u366 u365 u364 u363 u362 u361 u360 u359 u358 u357 u356 u355 u354 u353 u352 u351 u350 u349 u348 u347 u346 u345 u344 u343 u342 u341 u340 u339 u338 u337 u336 u335 u334 u333 u332 u331 u330 u329 u328 u327 u326 u325 u324 u323 u322 u321 u320 u319 u318 u317 u316 u315 u314 u313 u312 u311 u310 u309 u308 u307 u306 u305 u304 u303 u302 u301 u300 u299 u298 u297 u296 u295 u294 u293 u292 u291 u290 u289 u288 u287 u286 u285 u284 u283 u282 u281 u280 u279 u278 u277 u276 u275 u274 u270 u269 u268 u267 u266 u265 u264 u263 u262 u261 u260 u259 u258 u257 u256 u255 u254 u253 u252 u251 u250 u249 u248 u247 u246 u245 u244 u243 u242 u241 u240 u239 u238 u237 u236 u235 u234 u233 u232 u231 u230 u229 u228 u227 u226 u225 u224 u223 u222 u221 u220 u219 u218 u217 u216 u215 u214 u213 u212 u211 u210 u209 u208 u207 u206 u205 u204 u203 u202 u201 u200 u199 u198 u197 u196 u195 u194 u193 u189 u188 u187 u186 u185 u184 u183 u182 u181 u180 u179 u178 u177 u176 u175 u174 u173 u172 u171 u170 u169 u168 u167 u166 u165 u164 u163 u162 u161 u160 u159 u158 u157 u156 u155 u154 u153 u152 u148 u147 u146 u145 u144 u143 u142 u141 u140 u139 u138 u137 u136 u135 u134 u133 u132 u131 u130 u129 u128 u127 u126 u125 u124 u123 u122 u121 u120 u119 u118 u117 u116 u115 u114 u113 u112 u111 u110 u109 u108 u107 u106 u105 u104 u103 u102 u101 u100 u99 u98 u97 u96 u95 u94 u93 u92 u91 u90 u89 u88 u87 u86 u85 u84 u83 u82 u81 u80 u79 u78 u77 u76 u75 u74 u73 u72 u71 u70 u69 u68 u67 u66 u65 u64 u63 u62 u61 u60 u59 u58 w62 t811 t810 kj11 wc w27 w25 v801 w23 v797 w21 v793 w19 v789 w17 co15 Ao15 w14 gb787 w13 t807 t806 t805 t804 t803 t800 t799 t796 t795 t792 t788 t784 BK787 A59 hu26 w GW787 GE787 HO786 HO790 HO794 HO798 HO802 HB HO_6 HO_10 HO_788000 r l1 H hcut c1 HC1 A1 HR1 l0 A3 c0 HC0 A0 HR0 k A5 A7 A8 A9 A10 A11 HJ11 A6
    repeat (rename_i z_;revert z_)
    (repeat revert wc);(repeat revert BK787);(repeat revert HB);(repeat revert H)
    repeat (rename_i z_;revert z_)
    exact hG164.out.out.out
  ·
   (try clear hG164)
   replace c58:=Bool.eq_false_iff.mpr c58;subst c58;rw [if_neg (show ¬ (false=true) by decide)] at H;have H':=Aside0.mk H;clear H;go_wp2
   repeat (go_quiet (fail);try go_wp2)
   go_meet
   case rel=>exact ⟨_,H',⟨by have:=HJ11.out;first|omega|exact Nat.le_refl _⟩,⟨Kd.R_mono (uR HO_788000) (fun _ hk=>trivial)⟩,⟨uK BK787⟩,⟨(vB HB)⟩⟩
end Go.Proofs.YtkgngggppcmpfaaGreat.L
end
