/- Laws about the given program: a part of the walk of the law FnOrbitsShareIdeals; no condition is added to the given statement. -/
import Derived.Test.YtkgngggppcmpfaaGreatKSP6
section
namespace Go.Proofs.YtkgngggppcmpfaaGreat.L
open Go.RowKit Go.Proofs.YtkgngggppcmpfaaGreatW.PrintWords Go.Proofs.YtkgngggppcmpfaaGreatW.PrintLast Go.Proofs.YtkgngggppcmpfaaGreatW.PrintMore Go.Proofs.YtkgngggppcmpfaaGreat.X
attribute [local go_sem] Q2 Q4 Qbd Qbe Qz Q0 Q3 Q5
set_option linter.unusedVariables false
set_option linter.unusedSimpArgs false
set_option maxHeartbeats 80000000 in
set_option maxRecDepth 100000 in
theorem laws_FnOrbitsShareIdeals.last270 : laws_FnOrbitsShareIdeals.part211.2.1:=by
 intros wc _ _ _ _ _ _ _ _ _ _ _ _ _ k A0 c0 l0 A1 c1 l1 r w hu26 HR0 HC0 HR1 HC1 H A3 H t784 A5 H t788 t792 t795 A7 t796 t799 A8 t800 t803 A9 t804 t805 A10 t806 t807 A11 _ w13 gb787 w14 GW787 GE787 Ao15 co15 w17 w19 v793 w21 v797 w23 v801 w25 w27 HO786 HO798 HO802 BK787 HB uC58 uC59 uC60 uC61 uC62 uC63 uC64 uC65 uC66 uC67 uC68 uC69 uC70 uC71 uC72 uC73 uC74 uC75 uC76 uC77 uC78 uC79 uC80 uC81 uC82 uC83 uC84 uC85 uC86 uC87 uC88 uC89 uC90 uC91 uC92 uC93 uC94 uC95 uC96 uC97 uC98 uC99 uC100 uC101 uC102 uC103 uC104 uC105 uC106 uC107 uC108 uC109 uC110 uC111 uC112 uC113 uC114 uC115 uC116 uC117 uC118 uC119 uC120 uC121 uC122 uC123 uC124 uC125 uC126 uC129 uC130 uC131 uC132 uC133 uC134 uC135 uC136 uC137 uC138 uC139 uC140 uC141 uC142 uC143 uC144 uC145 uC146 uC147 uC148 uC152 uC153 uC154 uC155 uC156 uC157 uC158 uC159 uC160 uC161 uC162 uC163 uC164 uC165 uC166 uC167 uC168 uC169 uC170 uC171 uC172 uC173 uC174 uC175 uC176 uC177 uC178 uC179 uC180 uC181 uC182 uC183 uC184 uC185 uC186 uC187 uC188 uC189 uC193 uC194 uC195 uC196 uC197 uC198 uC199 uC200 uC201 uC202 uC203 uC204 uC205 uC206 uC207 uC208 uC209 uC210 uC211 uC212 uC213 uC214 uC215 uC216 uC217 uC218 uC219 uC220 uC221 uC222 uC223 uC224 uC225 uC226 uC227 uC228 uC229 uC230 uC231 uC232 uC233 uC234 uC235 uC236 uC237 uC238 uC239 uC240 uC241 uC242 uC243 uC244 uC245 uC246 uC247 uC248 uC249 uC250 uC251 uC252 uC253 uC254 uC255 uC256 uC257 uC258 uC259 uC260 uC261 uC262 uC263 uC264 uC265 uC266 uC267 uC268 uC269 uC270 uC274 uC275 uC276 uC277 uC278 uC279 uC280 uC281 uC282 uC283 uC284 uC285 uC286 uC287 uC288 uC289 uC290 uC291 uC292 uC293 uC294 uC295 uC296 uC297 uC298 uC299 uC300 uC301 uC302 uC303 uC304 uC305 uC306 uC307 uC308 uC309 uC310 uC311 uC312 uC313 uC314 uC315 uC316 uC317 uC318 uC319 uC320 uC321 uC322 uC323 uC324 uC325 uC326 uC327 uC328 uC329 uC330 uC331 uC332 uC333 uC334 uC335 uC336 uC337 uC338 uC339 uC340 uC341 uC342 uC343 uC344 uC345 uC346 uC347 uC348 uC349 uC350 uC351 uC352 uC353 uC354 uC355 uC356 uC357 uC358 uC359 uC360 uC361 uC362 uC363 uC364 uC365 uC366 uC367 uC368 uC369 uC370 uC371 uC372 uC373 uC374 uC375 uC376 uC377 uC378 uC379 uC380 uC381 uC382 kj11 HJ11 _ A6 H H H H H H t810 t811 A59 w62 HO_10 HO_788000 BK787 HB wc uE58 uE59 uE60 uE61 uE62 uE63 uE64 uE65 uE66 uE67 uE68 uE69 uE70 uE71 uE72 uE73 uE74 uE75 uE76 uE77 uE78 uE79 uE80 uE81 uE82 uE83 uE84 uE85 uE86 uE87 uE88 uE89 uE90 uE91 uE92 uE93 uE94 uE95 uE96 uE97 uE98 uE99 uE100 uE101 uE102 uE103 uE104 uE105 uE106 uE107 uE108 uE109 uE110 uE111 uE112 uE113 uE114 uE115 uE116 uE117 uE118 uE119 uE120 uE121 uE122 uE123 uE124 uE125 uE126 uE127 uE128 uE129 uE130 uE131 uE132 uE133 uE134 uE135 uE136 uE137 uE138 uE139 uE140 uE141 uE142 uE143 uE144 uE145 uE146 uE147 uE226 uE227 uE228 uE229 uE230 uE231 uE232 uE233 uE234 uE235 uE236 uE237 uE238 uE239 uE240 uE241 uE242 uE243 uE244 uE245 uE246 uE247 uE248 uE249 uE250 uE251 uE252 uE253 uE254 uE255 uE256 uE257 uE258 uE259 uE260 uE261 uE262 uE263 uE264 uE265 uE266 uE267 uE268 uE269 uE270 uE274 uE275 uE276 uE277 uE278 uE279 uE280 uE281 uE282 uE283 uE284 uE285 uE286 uE287 uE288 uE289 uE290 uE291 uE292 uE293 uE294 uE295 uE296 uE297 uE298 uE299 uE300 uE301 uE302 uE303 uE304 uE305 uE306 uE307 uE308 uE309 uE310 uE311 uE312 uE313 uE314 uE315 uE316 uE317 uE318 uE319 uE320 uE321 uE322 uE323 uE324 uE325 uE326 uE327 uE328 uE329 uE330 uE331 uE332 uE333 uE334 uE335 uE336 uE337 uE338 uE339 uE340 uE341 uE342 uE343 uE344 uE345 uE346 uE347 uE348 uE349 uE350 uE351 uE352 uE353 uE354 uE355 uE356 uE357 uE358 uE359 uE360 uE361 uE362 uE363 uE364 uE365 uE366 uE367 uE368 uE369 uE370 uE371 uE372 uE373 uE374 uE375 uE376 uE377 uE378 uE379 uE380 uE381 uE382 HO_10 HO_788000 BK787 HB kj59 HJ59 co70 _ wr uF4 uF22 uF23 uF24 uF25 uF156 uF157 uF158 uF159 uF160 uF161 uF162 uF163 uF164 uF165 uF166 uF167 uF168 uF169 uF170 uF171 uF172 uF173 uF174 uF175 uF176 uF177 uF178 uF179 uF180 uF181 uF182 uF183 uF184 uF185 uF186 uF187 uF188 uF189 uF190 uF191 uF192 uF193 uF194 uF195 uF196 uF197 uF198 uF199 uF200 uF201 uF202 uF203 uF204 uF205 uF206 uF207 uF208 uF209 uF210 uF211 uF212 uF213 uF214 uF215 uF216 uF217 uF218 uF219 uF220 uF221 uF222 uF223 uF224 uF225 x151_3 HO_10 HO_788000 BK787 HB k3 _ HK3 c71b0 c72b0 c73b0 ad813 A813_0 c813_0 hx813_0 HO790 HO794 _ HO_6 HO_6 _ HO_6 HO_149 ve813_0 HL813_0 HR813_0 HC813_0 p813 q813 _ _ _ _ H c75b0 c76b0 c76b1 c77
 replace c77:=Bool.eq_false_iff.mpr c77;subst c77;rw [if_neg (show ¬ (false=true) by decide)] at H
 by_cases c89:x151_3>0
 ·
  rw [if_pos c89] at H;have c89b0:=decide_eq_true c89;clear c89;obtain ⟨ji90,hji90⟩: ∃ j_:Int,(wrap64 (x151_3 - 1))=j_:=⟨_,rfl⟩
  replace H:(if 0≤(ji90) then (if (ji90)<(t788.length:Int) then (if 0<((Qu t788 (ji90)).length:Int) then (if 0<((Qu t788 x151_3).length:Int) then (laws_FnOrbitsShareIdeals.j3 k3 l1 t788 t796 t804 false (Qu t788 x151_3) t788 (t788.length:Int) x151_3 (decide ((rd (Qu t788 (ji90)) 0) ≥ (rd (Qu t788 x151_3) 0))) t784) else (none)) else (none)) else (none)) else (none))=some r:=by first|(rw [hji90] at H;exact H)|(simp only [hji90] at H ⊢;exact H)
  have hji90w:(IntKind.i64.wrap (x151_3 - 1))=ji90:=(Qcw _).trans hji90
  by_cases c91:0≤(ji90)
  ·
   rw [if_pos c91] at H;have c91b0:=decide_eq_true c91;clear c91
   by_cases c92:(ji90)<(t788.length:Int)
   ·
    rw [if_pos c92] at H;have c92b0:=decide_eq_true c92;clear c92
    by_cases c93:0<((Qu t788 (ji90)).length:Int)
    ·
     rw [if_pos c93] at H;have c93b0:=decide_eq_true c93;have c93b1:decide (0<(Qu t788 (ji90)).length)=true:=decide_eq_true (by omega);clear c93
     by_cases c94:0<((Qu t788 x151_3).length:Int)
     ·
      rw [if_pos c94] at H;have c94b0:=decide_eq_true c94;have c94b1:decide (0<(Qu t788 x151_3).length)=true:=decide_eq_true (by omega);clear c94;have H':=Aside0.mk H;clear H;obtain ⟨Ao95,co95,eo95⟩:=Kd.R_slice HO_10.out;subst eo95;have p814:0≤(x151_3:Int):=of_decide_eq_true (by first|(with_reducible assumption)|assumption);have q814:x151_3<(t796.length:Int):=of_decide_eq_true (by first|(with_reducible assumption)|assumption);obtain ⟨ad814,e814,hx814_0⟩:=Kd.at_int (Kd.R_reads' HO_10.out).2.2 x151_3 p814 q814;cases e814;replace p814:=eq_true p814;replace q814:=eq_true q814;have p818:0≤((ji90):Int):=of_decide_eq_true (by first|(with_reducible assumption)|assumption);have q818:(ji90)<(t788.length:Int):=of_decide_eq_true (by first|(with_reducible assumption)|assumption);obtain ⟨ad818,A818_0,c818_0,e818,hx818_0,hl818_0,hi818_0⟩:=Qfg (Kd.S_reads' HO_6.out).2.2 (ji90) p818 q818;obtain rfl:ad813=ad818:=(by injection e818)
      obtain ⟨ce818,hce818,hMe818,hcc818⟩:=Kd.S_get HO_6.out [] (ji90) p818 (by first|exact q818|exact of_decide_eq_true (by first|(with_reducible assumption)|assumption)|(have e_:=(Kd.S_reads' HO_6.out).1;omega));obtain ⟨ve818_0,rfl,ge818_0⟩:=hMe818;have hv818_0:=hcc818 0 _ rfl;rw [Nat.add_zero,show ((Kd.slice 3 (Kd.int .i64))).sz=1 from rfl,Nat.mul_one] at hv818_0;replace hv818_0:=Option.some.inj (hv818_0.symm.trans hx818_0);rw [hv818_0] at ge818_0;have HL818_0:=Aside0.mk (show Kd.R (Kd.int .i64) 3 _ _ _ _ (Qu t788 (ji90)) from ge818_0);clear hv818_0 ge818_0;clear hcc818 hce818;have HR818_0:=Aside0.mk hi818_0;have HC818_0:=Aside0.mk hl818_0;clear hi818_0 hl818_0;replace p818:=eq_true p818;replace q818:=eq_true q818;have p819:0≤(0:Int):=(by omega)
      have q819:0<((Qu t788 (ji90)).length:Int):=of_decide_eq_true (by first|(with_reducible assumption)|assumption);obtain ⟨ad819,e819,hx819_0⟩:=Kd.at_int (by repeat (first|(with_reducible exact HR818_0.out)|(with_reducible refine Kd.C_alloc ?_ _)|(with_reducible refine Kd.C_drewN ?_ _)|(with_reducible refine Kd.C_drew ?_)|exact HR818_0.out)) 0 p819 q819;cases e819;have qi819:(0<(Qu t788 (ji90)).length)=True:=eq_true (by omega)
      (try rw [show ((0:Int)).toNat=0 from rfl] at hx819_0)
      (try rw [Addr.add_zero'] at hx819_0)
      replace p819:=eq_true p819;replace q819:=eq_true q819;have p820:0≤(0:Int):=(by omega)
      have q820:0<((Qu t788 x151_3).length:Int):=of_decide_eq_true (by first|(with_reducible assumption)|assumption);obtain ⟨ad820,e820,hx820_0⟩:=Kd.at_int (by repeat (first|(with_reducible exact HR813_0.out)|(with_reducible refine Kd.C_alloc ?_ _)|(with_reducible refine Kd.C_drewN ?_ _)|(with_reducible refine Kd.C_drew ?_)|exact HR813_0.out)) 0 p820 q820;cases e820;have qi820:(0<(Qu t788 x151_3).length)=True:=eq_true (by omega)
      (try rw [show ((0:Int)).toNat=0 from rfl] at hx820_0)
      (try rw [Addr.add_zero'] at hx820_0)
      replace p820:=eq_true p820;replace q820:=eq_true q820;go_wp2
      repeat (go_quiet (fail);try go_wp2)
      go_meet
      case rel=>exact ⟨_,(decide ((rd (Qu t788 (ji90)) 0) ≥ (rd (Qu t788 x151_3) 0))),(by first|rfl|(simp;done)|(simp only [←hji90] <;>(first|rfl|simp))|(simp [*];done)),H',⟨by have:=HJ11.out;have:=HJ59.out;have:=HK3.out;first|omega|exact Nat.le_refl _⟩,⟨uS HO_6⟩,⟨uR HO_10⟩,⟨uS HO_149⟩,⟨uR HO_788000⟩,⟨uK BK787⟩,⟨by repeat (first|(with_reducible exact HR813_0.out)|(with_reducible refine Kd.C_alloc ?_ _)|(with_reducible refine Kd.C_drewN ?_ _)|(with_reducible refine Kd.C_drew ?_)|exact HR813_0.out)⟩,⟨(vB HB)⟩⟩
     ·
      rw [if_neg c94] at H;exact absurd H (by simp)
    ·
     rw [if_neg c93] at H;exact absurd H (by simp)
   ·
    rw [if_neg c92] at H;exact absurd H (by simp)
  ·
   rw [if_neg c91] at H;exact absurd H (by simp)
 ·
  rw [if_neg c89] at H;have c89b0:=decide_eq_false c89;clear c89;have H':=Aside0.mk H;clear H;obtain ⟨Ao96,co96,eo96⟩:=Kd.R_slice HO_10.out;subst eo96;have p814:0≤(x151_3:Int):=of_decide_eq_true (by first|(with_reducible assumption)|assumption);have q814:x151_3<(t796.length:Int):=of_decide_eq_true (by first|(with_reducible assumption)|assumption);obtain ⟨ad814,e814,hx814_0⟩:=Kd.at_int (Kd.R_reads' HO_10.out).2.2 x151_3 p814 q814;cases e814;replace p814:=eq_true p814;replace q814:=eq_true q814;go_wp2
  repeat (go_quiet (fail);try go_wp2)
  go_meet
  case rel=>exact ⟨_,(false),(by first|rfl|(simp;done)|(simp [*];done)),H',⟨by have:=HJ11.out;have:=HJ59.out;have:=HK3.out;first|omega|exact Nat.le_refl _⟩,⟨uS HO_6⟩,⟨uR HO_10⟩,⟨uS HO_149⟩,⟨uR HO_788000⟩,⟨uK BK787⟩,⟨by repeat (first|(with_reducible exact HR813_0.out)|(with_reducible refine Kd.C_alloc ?_ _)|(with_reducible refine Kd.C_drewN ?_ _)|(with_reducible refine Kd.C_drew ?_)|exact HR813_0.out)⟩,⟨(vB HB)⟩⟩
end Go.Proofs.YtkgngggppcmpfaaGreat.L
end
