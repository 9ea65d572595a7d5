/- Laws about the given program: a part of the walk of the law FnOrbitsShareIdeals; no condition is added to the given statement. -/
import Derived.Test.YtkgngggppcmpfaaGreatKSP9
section
namespace Go.Proofs.YtkgngggppcmpfaaGreat.L
open Go.RowKit Go.Proofs.YtkgngggppcmpfaaGreatW.PrintWords Go.Proofs.YtkgngggppcmpfaaGreatW.PrintLast Go.Proofs.YtkgngggppcmpfaaGreatW.PrintMore Go.Proofs.YtkgngggppcmpfaaGreat.X
attribute [local go_sem] Q2 Q4 Qbd Qbe Qz Q0 Q3 Q5
set_option linter.unusedVariables false
set_option linter.unusedSimpArgs false
set_option maxHeartbeats 80000000 in
set_option maxRecDepth 100000 in
theorem laws_FnOrbitsShareIdeals.last338 : laws_FnOrbitsShareIdeals.part338.1:=by
 intros wc wr _ _ _ _ _ _ _ _ _ _ _ k A0 c0 l0 A1 c1 l1 r w hu26 HR0 HC0 HR1 HC1 H A3 H t784 A5 H t788 t792 t795 A7 t796 t799 A8 t800 t803 A9 t804 t805 A10 t806 t807 A11 _ w13 gb787 w14 GW787 GE787 Ao15 co15 w17 w19 v793 w21 v797 w23 v801 w25 w27 HO786 HO798 HO802 BK787 HB uC58 uC59 uC60 uC61 uC62 uC63 uC64 uC65 uC66 uC67 uC68 uC69 uC70 uC71 uC72 uC73 uC74 uC75 uC76 uC77 uC78 uC79 uC80 uC81 uC82 uC83 uC84 uC85 uC86 uC87 uC88 uC89 uC90 uC91 uC92 uC93 uC94 uC95 uC96 uC97 uC98 uC99 uC100 uC101 uC102 uC103 uC104 uC105 uC106 uC107 uC108 uC109 uC110 uC111 uC112 uC113 uC114 uC115 uC116 uC117 uC118 uC119 uC120 uC121 uC122 uC123 uC124 uC125 uC126 uC129 uC130 uC131 uC132 uC133 uC134 uC135 uC136 uC137 uC138 uC139 uC140 uC141 uC142 uC143 uC144 uC145 uC146 uC147 uC148 uC152 uC153 uC154 uC155 uC156 uC157 uC158 uC159 uC160 uC161 uC162 uC163 uC164 uC165 uC166 uC167 uC168 uC169 uC170 uC171 uC172 uC173 uC174 uC175 uC176 uC177 uC178 uC179 uC180 uC181 uC182 uC183 uC184 uC185 uC186 uC187 uC188 uC189 uC193 uC194 uC195 uC196 uC197 uC198 uC199 uC200 uC201 uC202 uC203 uC204 uC205 uC206 uC207 uC208 uC209 uC210 uC211 uC212 uC213 uC214 uC215 uC216 uC217 uC218 uC219 uC220 uC221 uC222 uC223 uC224 uC225 uC226 uC227 uC228 uC229 uC230 uC231 uC232 uC233 uC234 uC235 uC236 uC237 uC238 uC239 uC240 uC241 uC242 uC243 uC244 uC245 uC246 uC247 uC248 uC249 uC250 uC251 uC252 uC253 uC254 uC255 uC256 uC257 uC258 uC259 uC260 uC261 uC262 uC263 uC264 uC265 uC266 uC267 uC268 uC269 uC270 uC274 uC275 uC276 uC277 uC278 uC279 uC280 uC281 uC282 uC283 uC284 uC285 uC286 uC287 uC288 uC289 uC290 uC291 uC292 uC293 uC294 uC295 uC296 uC297 uC298 uC299 uC300 uC301 uC302 uC303 uC304 uC305 uC306 uC307 uC308 uC309 uC310 uC311 uC312 uC313 uC314 uC315 uC316 uC317 uC318 uC319 uC320 uC321 uC322 uC323 uC324 uC325 uC326 uC327 uC328 uC329 uC330 uC331 uC332 uC333 uC334 uC335 uC336 uC337 uC338 uC339 uC340 uC341 uC342 uC343 uC344 uC345 uC346 uC347 uC348 uC349 uC350 uC351 uC352 uC353 uC354 uC355 uC356 uC357 uC358 uC359 uC360 uC361 uC362 uC363 uC364 uC365 uC366 uC367 uC368 uC369 uC370 uC371 uC372 uC373 uC374 uC375 uC376 uC377 uC378 uC379 uC380 uC381 uC382 kj11 HJ11 _ A6 H H H H H H t810 t811 A59 w62 HO_10 HO_788000 BK787 HB uE58 uE59 uE60 uE61 uE62 uE63 uE64 uE65 uE66 uE67 uE68 uE69 uE70 uE71 uE72 uE73 uE74 uE75 uE76 uE77 uE78 uE79 uE80 uE81 uE82 uE83 uE84 uE85 uE86 uE87 uE88 uE89 uE90 uE91 uE92 uE93 uE94 uE95 uE96 uE97 uE98 uE99 uE100 uE101 uE102 uE103 uE104 uE105 uE106 uE107 uE108 uE109 uE110 uE111 uE112 uE113 uE114 uE115 uE116 uE117 uE118 uE119 uE120 uE121 uE122 uE123 uE124 uE125 uE126 uE127 uE128 uE129 uE130 uE131 uE132 uE133 uE134 uE135 uE136 uE137 uE138 uE139 uE140 uE141 uE142 uE143 uE144 uE145 uE146 uE147 uE226 uE227 uE228 uE229 uE230 uE231 uE232 uE233 uE234 uE235 uE236 uE237 uE238 uE239 uE240 uE241 uE242 uE243 uE244 uE245 uE246 uE247 uE248 uE249 uE250 uE251 uE252 uE253 uE254 uE255 uE256 uE257 uE258 uE259 uE260 uE261 uE262 uE263 uE264 uE265 uE266 uE267 uE268 uE269 uE270 uE274 uE275 uE276 uE277 uE278 uE279 uE280 uE281 uE282 uE283 uE284 uE285 uE286 uE287 uE288 uE289 uE290 uE291 uE292 uE293 uE294 uE295 uE296 uE297 uE298 uE299 uE300 uE301 uE302 uE303 uE304 uE305 uE306 uE307 uE308 uE309 uE310 uE311 uE312 uE313 uE314 uE315 uE316 uE317 uE318 uE319 uE320 uE321 uE322 uE323 uE324 uE325 uE326 uE327 uE328 uE329 uE330 uE331 uE332 uE333 uE334 uE335 uE336 uE337 uE338 uE339 uE340 uE341 uE342 uE343 uE344 uE345 uE346 uE347 uE348 uE349 uE350 uE351 uE352 uE353 uE354 uE355 uE356 uE357 uE358 uE359 uE360 uE361 uE362 uE363 uE364 uE365 uE366 uE367 uE368 uE369 uE370 uE371 uE372 uE373 uE374 uE375 uE376 uE377 uE378 uE379 uE380 uE381 uE382 HO_10 HO_788000 BK787 HB kj59 HJ59 co70 _ uF4 uF22 uF23 uF24 uF25 uF190 uF191 uF192 x151_3 HO_10 HO_788000 BK787 HB k3 _ HK3 ad813 A813_0 c813_0 HO790 HO794 _ HO_6 HO_6 _ HO_6 HO_149 ve813_0 HL813_0 HR813_0 HC813_0 _ wc uJ152 uJ153 uJ154 uJ155 uJ156 uJ157 uJ158 uJ159 uJ160 uJ161 uJ162 uJ163 uJ164 uJ165 uJ166 uJ167 uJ168 uJ169 uJ170 uJ171 uJ172 uJ173 uJ174 uJ175 uJ176 uJ177 uJ178 uJ179 uJ180 uJ181 uJ182 uJ183 uJ184 uJ185 uJ186 uJ187 uJ188 uJ225 HO_6 HO_10 HO_149 HO_788000 BK787 HR813_0 HB kj73 HJ73 H' gk wr uK4 uK22 uK23 uK24 uK25 uK192 uK193 uK194 uK195 uK196 uK197 uK198 uK199 uK200 uK201 uK202 uK203 uK204 uK205 uK206 uK207 uK208 uK209 uK210 uK211 uK212 uK213 uK214 uK215 uK216 uK217 uK218 uK219 uK220 uK221 uK222 uK223 uK224 hrel _ _
 clear H'
 skip
 obtain ⟨x192_5,rfl,HA,HK5,HO_6,HO_10,HO_149,HO_788000,BK787,HR813_0,HB⟩:=hrel;cases gk with
 |zero=>exact absurd HA.out (by simp [laws_FnOrbitsShareIdeals.l1])
 |succ k5=>
  have H:=HA.out;clear HA;simp only [laws_FnOrbitsShareIdeals.l1] at H
  by_cases c99:x192_5<((Qu t788 x151_3).length:Int)
  ·
   rw [if_pos c99] at H;have c99b0:=decide_eq_true c99;clear c99
   by_cases c100:0≤x192_5
   ·
    rw [if_pos c100] at H;have c100b0:=decide_eq_true c100;clear c100
    by_cases c101:x192_5<((Qu t788 x151_3).length:Int)
    ·
     rw [if_pos c101] at H;have c101b0:=decide_eq_true c101;clear c101;obtain ⟨⟨t822,t823⟩,A102,H⟩:=bs H;(try dsimp only at H)
     by_cases c103:t823=true
     ·
      subst c103;rw [if_pos rfl] at H
      by_cases c104:((Qu t788 x151_3).length:Int)=0
      ·
       rw [if_pos c104] at H;exact absurd H (by simp)
      ·
       rw [if_neg c104] at H;have c104b0:(((Qu t788 x151_3).length:Int)==0)=false:=beq_eq_false_iff_ne.mpr c104;have c104b1:(((Qu t788 x151_3).length:Int) !=0)=true:=bne_iff_ne.mpr c104;have c104b2: ¬ ((Qu t788 x151_3)= []):=fun h_=>c104 (by rw [h_];rfl)
       obtain ⟨ji105,hji105⟩: ∃ j_:Int,(Int.tmod (wrap64 (x192_5+1)) ((Qu t788 x151_3).length:Int))=j_:=⟨_,rfl⟩
       replace H:(if 0≤(ji105) then (if (ji105)<((Qu t788 x151_3).length:Int) then (if t822=(rd (Qu t788 x151_3) (ji105)) then (if 0<((Qu t788 x151_3).length:Int) then (if (rd (Qu t788 x151_3) x192_5)<(rd (Qu t788 x151_3) 0) then (none) else (laws_FnOrbitsShareIdeals.l1 k5 l1 t788 t796 t804 t805 (Qu t788 x151_3) t788 (t788.length:Int) x151_3 (Qu t788 x151_3) ((Qu t788 x151_3).length:Int) (wrap64 (x192_5+1)) t784)) else (none)) else (none)) else (none)) else (none))=some r:=by first|(rw [hji105] at H;exact H)|(simp only [hji105] at H ⊢;exact H)
       (try rw [hji105] at A102)
       by_cases c106:0≤(ji105)
       ·
        rw [if_pos c106] at H;have c106b0:=decide_eq_true c106;clear c106
        by_cases c107:(ji105)<((Qu t788 x151_3).length:Int)
        ·
         rw [if_pos c107] at H;have c107b0:=decide_eq_true c107;clear c107
         by_cases c108:t822=(rd (Qu t788 x151_3) (ji105))
         ·
          rw [if_pos c108] at H;have c108b0:(t822==(rd (Qu t788 x151_3) (ji105)))=true:=beq_iff_eq.mpr c108;have c108b1:(t822 !=(rd (Qu t788 x151_3) (ji105)))=false:=bne_eq_false_iff_eq.mpr c108;clear c108
          by_cases c109:0<((Qu t788 x151_3).length:Int)
          ·
           rw [if_pos c109] at H;have c109b0:=decide_eq_true c109;have c109b1:decide (0<(Qu t788 x151_3).length)=true:=decide_eq_true (by omega);clear c109
           by_cases c110:(rd (Qu t788 x151_3) x192_5)<(rd (Qu t788 x151_3) 0)
           ·
            rw [if_pos c110] at H;exact absurd H (by simp)
           ·
            rw [if_neg c110] at H;have c110b0:=decide_eq_false c110;clear c110;have H':=Aside0.mk H;clear H;have p821:0≤(x192_5:Int):=of_decide_eq_true (by first|(with_reducible assumption)|assumption);have q821:x192_5<((Qu t788 x151_3).length:Int):=of_decide_eq_true (by first|(with_reducible assumption)|assumption);obtain ⟨ad821,e821,hx821_0⟩:=Kd.at_int HR813_0.out x192_5 p821 q821;cases e821;(try replace hx821_0:=(HB.out.cell (World.block_lt_of_cell? w _ hx821_0)).trans hx821_0);replace p821:=eq_true p821;replace q821:=eq_true q821;have hcz111_0:=bC BK787;have hfz111_0:=Qe BK787.out 0
            ·
             go_wp2_with (first|(go_at_call 16;(with_reducible refine (Qdi.calls k5 _ _ t784 (rd (Qu t788 x151_3) x192_5) t822 true _ (uE HO_788000) ?side2 A102.out).mono ?_);(case side2=>exact (Kd.R_reads' HO_788000.out).2.1);rintro e w112 ⟨rfl,hb⟩;replace HO_6:=Aside0.mk (Kd.S_below (uS HO_6) hb);replace HO_10:=Aside0.mk (Kd.R_below (uR HO_10) hb);replace HO_149:=Aside0.mk (Kd.S_below (uS HO_149) hb);replace HO_788000:=Aside0.mk (Kd.R_below (uR HO_788000) hb);replace BK787:=Aside0.mk (Qb (uK BK787) hb);replace HR813_0:=Aside0.mk (Kd.C_below (by repeat (first|(with_reducible exact HR813_0.out)|(with_reducible refine Kd.C_alloc ?_ _)|(with_reducible refine Kd.C_drewN ?_ _)|(with_reducible refine Kd.C_drew ?_)|exact HR813_0.out)) hb);replace HB:=Aside0.mk (Qc (vB HB) hb);(try clear hb);have p824:0≤((ji105):Int):=of_decide_eq_true (by first|(with_reducible assumption)|assumption);have q824:(ji105)<((Qu t788 x151_3).length:Int):=of_decide_eq_true (by first|(with_reducible assumption)|assumption);obtain ⟨ad824,e824,hx824_0⟩:=Kd.at_int HR813_0.out (ji105) p824 q824;obtain rfl:ad821=ad824:=(by injection e824);(try replace hx824_0:=(HB.out.cell (World.block_lt_of_cell? w _ hx824_0)).trans hx824_0);replace p824:=eq_true p824;replace q824:=eq_true q824;have p825:0≤(0:Int):=(by omega);have q825:0<((Qu t788 x151_3).length:Int):=of_decide_eq_true (by first|(with_reducible assumption)|assumption);obtain ⟨ad825,e825,hx825_0⟩:=Kd.at_int HR813_0.out 0 p825 q825;obtain rfl:ad821=ad825:=(by injection e825);have qi825:(0<(Qu t788 x151_3).length)=True:=eq_true (by omega);(try rw [show ((0:Int)).toNat=0 from rfl] at hx825_0);(try rw [Addr.add_zero'] at hx825_0);(try replace hx825_0:=(HB.out.cell (World.block_lt_of_cell? w _ hx825_0)).trans hx825_0);replace p825:=eq_true p825;replace q825:=eq_true q825))
             go_roundg k5
             case measure=>have:=HJ11.out;have:=HJ59.out;have:=HK3.out;have:=HJ73.out;have:=HK5.out;omega
             case rel=>exact ⟨(wrap64 (x192_5+1)),(by first|rfl|(simp;done)|(simp [*];done)),H',⟨by have:=HJ11.out;have:=HJ59.out;have:=HK3.out;have:=HJ73.out;have:=HK5.out;omega⟩,⟨uS HO_6⟩,⟨uR HO_10⟩,⟨uS HO_149⟩,⟨uR HO_788000⟩,⟨uK BK787⟩,⟨by repeat (first|(with_reducible exact HR813_0.out)|(with_reducible refine Kd.C_alloc ?_ _)|(with_reducible refine Kd.C_drewN ?_ _)|(with_reducible refine Kd.C_drew ?_)|exact HR813_0.out)⟩,⟨(vB HB)⟩⟩
          ·
           rw [if_neg c109] at H;exact absurd H (by simp)
         ·
          rw [if_neg c108] at H;exact absurd H (by simp)
        ·
         rw [if_neg c107] at H;exact absurd H (by simp)
       ·
        rw [if_neg c106] at H;exact absurd H (by simp)
     ·
      replace c103:=Bool.eq_false_iff.mpr c103;subst c103;rw [if_neg (show ¬ (false=true) by decide)] at H;exact absurd H (by simp)
    ·
     rw [if_neg c101] at H;exact absurd H (by simp)
   ·
    rw [if_neg c100] at H;exact absurd H (by simp)
  ·
   rw [if_neg c99] at H;have c99b0:=decide_eq_false c99;clear c99;have H':=Aside0.mk H;clear H;go_wp2
   repeat (go_quiet (fail);try go_wp2)
   go_roundg k5
   case measure=>have:=HJ11.out;have:=HJ59.out;have:=HK3.out;have:=HJ73.out;have:=HK5.out;omega
   case rel=>exact ⟨(wrap64 (x151_3+1)),(by first|rfl|(simp;done)|(simp [*];done)),H',⟨by have:=HJ11.out;have:=HJ59.out;have:=HK3.out;have:=HJ73.out;have:=HK5.out;omega⟩,⟨uS HO_6⟩,⟨uR HO_10⟩,⟨uS HO_149⟩,⟨uR HO_788000⟩,⟨uK BK787⟩,⟨(vB HB)⟩⟩
end Go.Proofs.YtkgngggppcmpfaaGreat.L
end
