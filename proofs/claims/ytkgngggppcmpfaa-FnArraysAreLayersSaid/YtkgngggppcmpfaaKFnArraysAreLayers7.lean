/- Laws about the given program: the law FnArraysAreLayers answers true for every input that its row lets in; no condition is added to the given statement. Contracts of the Go functions that it reaches, and the plain proof over lists. -/
import Derived.Test.YtkgngggppcmpfaaWFnArraysAreLayers0
import Derived.Test.YtkgngggppcmpfaaKFnArraysAreLayers0
import Derived.Test.YtkgngggppcmpfaaKFnArraysAreLayers1
import Derived.Test.YtkgngggppcmpfaaKFnArraysAreLayers2
import Derived.Test.YtkgngggppcmpfaaKFnArraysAreLayers3
import Derived.Test.YtkgngggppcmpfaaKFnArraysAreLayers4
import Derived.Test.YtkgngggppcmpfaaKFnArraysAreLayers5
import Derived.Test.YtkgngggppcmpfaaKFnArraysAreLayers6
section
namespace Go.Proofs.Ytkgngggppcmpfaa.L
open Go.RowKit Go.Proofs.YtkgngggppcmpfaaW.PrintWords Go.Proofs.YtkgngggppcmpfaaW.PrintLast Go.Proofs.YtkgngggppcmpfaaW.PrintMore Go.Proofs.Ytkgngggppcmpfaa.X
attribute [local go_sem] Qbd Qbf Qbn Qbo Q3 Q4 Qbe Qbg
set_option linter.unusedVariables false
set_option linter.unusedSimpArgs false
mutual
def Qbl.l0:Nat→List Int→Int→Int→Int→List Int→Int→Int→List Int→Option ((List (List Int)))
 |0,_,_,_,_,_,_,_,_=>none
 |k+1,x1,x2,x7,x8,x23,x24,x25,x679000=>if x25<x24 then (if 0≤x25 then (if x25<(x23.length:Int) then (if 0≤x7 then (if x7<(x679000.length:Int) then ((Qch.f (rd x679000 x7) x25).bind fun t687=>(if t687=true then ((Qc8.f x8 (rd x23 x25)).bind fun t688=>(Qbl.l0 k x1 x2 x7 t688 x23 x24 (wrap64 (x25+1)) x679000)) else (Qbl.l0 k x1 x2 x7 x8 x23 x24 (wrap64 (x25+1)) x679000))) else (none)) else (none)) else (none)) else (none)) else (Qbl.l1 k x1 x2 ([] :List (List Int)) x8 x679000)
def Qbl.l1:Nat→List Int→Int→List (List Int)→Int→List Int→Option ((List (List Int)))
 |0,_,_,_,_,_=>none
 |k+1,x1,x2,x11,x12,x679000=>if x12≤x2 then ((Qdp.f x1).bind fun t689=>((some (([x12] :List Int):List Int)).bind fun y692=>(if t689.length+y692.length<17592186044416 then ((Qbl.f k x679000 (t689++y692) x2).bind fun t698=>(if x11.length+t698.length<5864062014805 then (Qbl.l1 k x1 x2 (x11++t698) (wrap64 (x12+1)) x679000) else (none))) else (none)))) else (some x11)
def Qbl.f:Nat→List Int→List Int→Int→Option ((List (List Int)))
 |0,_,_,_=>none
 |k+1,l0_0,l1,a2=>if (l1.length:Int)=(l0_0.length:Int) then ((Qdp.f l1).bind fun t679=>(some (([t679] :List (List Int))))) else (Qbl.l0 k l1 a2 (l1.length:Int) 0 l1 (l1.length:Int) 0 l0_0)
end
theorem Qbl.mono_l: ∀ k,(∀ y0 y1 y2,LeO (Qbl.f k y0 y1 y2) (Qbl.f (k+1) y0 y1 y2))∧(∀ y0 y1 y2 y3 y4 y5 y6 y7,LeO (Qbl.l0 k y0 y1 y2 y3 y4 y5 y6 y7) (Qbl.l0 (k+1) y0 y1 y2 y3 y4 y5 y6 y7))∧(∀ y0 y1 y2 y3 y4,LeO (Qbl.l1 k y0 y1 y2 y3 y4) (Qbl.l1 (k+1) y0 y1 y2 y3 y4))
 |0=>⟨fun _ _ _ r h=>by simp [Qbl.f] at h,fun _ _ _ _ _ _ _ _ r h=>by simp [Qbl.l0] at h,fun _ _ _ _ _ r h=>by simp [Qbl.l1] at h⟩
 |k+1=>by
  obtain ⟨ih0,ih1,ih2⟩:=Qbl.mono_l k;refine ⟨?_,?_,?_⟩
  all_goals
   intros
   first|unfold Qbl.f|unfold Qbl.l0|unfold Qbl.l1
   repeat' (with_reducible first|apply ih0|apply ih1|apply ih2|exact LeO.refl _|exact LeO.none _|refine LeO.ite ?_ ?_|refine LeO.bind ?_ (fun _=> ?_))
theorem Qbl.mono: ∀ a0 a1 a2 k,LeO (Qbl.f k a0 a1 a2) (Qbl.f (k+1) a0 a1 a2):=by
 intro a0 a1 a2 k;obtain ⟨ih0,ih1,ih2⟩:=Qbl.mono_l k;exact ih0 a0 a1 a2
def Qbl.T15:Bool × List (List Nat × List Nat):=(true,[([],[]),([],[]),([],[]),([2],[2]),([],[]),([4],[4]),([3,5,3],[3,5]),([],[]),([1,6,7,6],[1,6,7]),([0,8,8],[0,8]),([9,9,0,1,2,3,4,5,6,7,8,9],[0,9])])
def Qbl.B15:List Nat:= [0,0,0,4,0,16,60,0,254,511,1023]
theorem Qbl.tab15:rtab .any (Qfx Try.f109 15)=Qbl.T15:=by kernel_rfl
theorem Qbl.bits15:Qem Qbl.T15.2 Qbl.B15=true:=by kernel_rfl
set_option maxHeartbeats 8000000 in
set_option maxRecDepth 100000 in
theorem Qbl.calls (k:Nat): ∀ (A0_0:Option Addr) (c0_0:Nat) (l0_0:List Int) (A1:Option Addr) (c1:Nat) (l1:List Int) (a2:Int) (r:List (List Int)) (w:World) (hr0_0:Kd.C (Kd.int .i64) w A0_0 l0_0.length l0_0) (hc0_0:l0_0.length≤c0_0) (hr1:Kd.C (Kd.int .i64) w A1 l1.length l1) (hc1:l1.length≤c1) (h:Qbl.f k l0_0 l1 a2=some r),
 Calls Try.prog 109 #[.agg #[.slice A0_0 l0_0.length c0_0], .slice A1 l1.length c1, .int .i64 a2] w fun e w'=> ∃ v0_:Value,e= .returned (v0_)∧Kd.N (Kd.slice 3 (Kd.int .i64)) 24 w' w.heap.size (fun k_=>(w.heap.size≤k_)) v0_ r∧Below w.heap.size w w':=by
 induction k using Nat.strongRecOn with
 |_ k ih=>
 intro A0_0 c0_0 l0_0 A1 c1 l1 a2 r w hr0_0 hc0_0 hr1 hc1 h;cases k with
 |zero=>exact absurd h (by simp [Qbl.f])
 |succ k=>
 simp only [Qbl.f] at h;have hu26:=Try.underlying26;have HR0_0:=Zk hr0_0;have HC0_0:=Zk hc0_0;clear hr0_0 hc0_0;have HR1:=Zk hr1;have HC1:=Zk hc1;clear hr1 hc1;have HB:=Zk (Below.refl w.heap.size w);have H:(if (l1.length:Int)=(l0_0.length:Int) then ((Qdp.f l1).bind fun t679=>(some (([t679] :List (List Int))))) else (Qbl.l0 k l1 a2 (l1.length:Int) 0 l1 (l1.length:Int) 0 l0_0))=some r:=h;clear h
 by_cases c4:(l1.length:Int)=(l0_0.length:Int)
 ·
  rw [if_pos c4] at H;have c4b0:((l1.length:Int)==(l0_0.length:Int))=true:=beq_iff_eq.mpr c4;have c4b1:((l1.length:Int) !=(l0_0.length:Int))=false:=bne_eq_false_iff_eq.mpr c4;have c4b2:(l1.length==l0_0.length)=true:=by first|simpa using c4|(simp at c4 ⊢;omega)
  clear c4;obtain ⟨t679,A5,H⟩:=bs H;(try dsimp only at H)
  obtain ⟨y682,hy682⟩: ∃ y_:List (List Int),y_=(([t679] :List (List Int))):=⟨_,rfl⟩
  replace H:(some y682)=some r:=by first|(rw [hy682];with_reducible exact H)|(have H2_:=(Option.bind_some _ _).symm.trans H;rw [hy682];with_reducible exact H2_)|(have H2_:=(Option.bind_some _ _).symm.trans H;with_reducible exact H2_)|with_reducible exact H|(rw [hy682];exact H)|exact H
  have Ny682:=Zk hy682;clear hy682;obtain rfl:=Option.some.inj H;go_enter Try.func109,Try.ntmps109;go_wp2_with (first|(refine bE (N:=3) (cs:= #[.slice A0_0 l0_0.length c0_0]) (t:=26) ?_;intro gb678 hg w6 hbox hb;have BK678:=Zk (hbox);have GW678:=Zk ((by rw [hg];exact (Qh (uB HB)):w.heap.size≤gb678));have GE678:=GW678;replace HB:=Zk (Qc (uB HB) hb);clear hb hbox hg;have hcz7_0:=bC BK678;have hfz7_0:=Qg BK678.out 0)|(refine gA (some 21) Try.func70 #[.slice A1 l1.length c1] ?_;(with_reducible refine (Qdp.calls _ _ l1 t679 _ (uD HR1 HB) HC1.out A5.out).mono ?_);rintro e w8 ⟨v680,rfl,ho0,hb⟩;refine ⟨_,rfl,?_⟩;have HO681:=Zk (Kd.R_lower (Kd.R_newM (M:=fun k_=>(w.heap.size≤k_)) ho0 (Qh (vB HB)) (fun k_ h_=>h_)) (Qh (vB HB)));replace BK678:=Zk (Qd (uK BK678) hb);replace HB:=Zk (Qc (vB HB) hb);(try clear hb ho0);obtain ⟨Ao9,co9,eo9⟩:=Kd.R_slice HO681.out;subst eo9)|((with_reducible refine Qb2 (N:=22) rfl ?_);refine Kd.N_lit (Kd.slice 3 (Kd.int .i64)) _ 24 ?hg (N':=22) ?hd (xs:=([t679] :List (List Int))) (inner:= [.slice Ao9 t679.length co9]) (ok:=(fun k_=>(w.heap.size≤k_)∧k_≠gb678)) (okp:=(fun k_=>(w.heap.size≤k_)∧k_≠gb678)) ?hr ?hp (fun _ hk=>hk) ((show ∀ k_,w8.heap.size≤k_→(fun k_=>(w.heap.size≤k_)∧k_≠gb678) k_ from fun k_ hk=>⟨(Nat.le_trans (Qh (vB HB)) hk),Kd.freshB (uK BK678) k_ hk⟩) _ (Nat.le_refl _)) (Below.refl _ _) (Nat.le_refl _) (by simp) ?_;(case hd=>rfl);(case hg=>rfl);(case hr=>first|(go_simp;done)|(go_simp;rfl));(case hp=>exact (Reps.one (show Kd.FK (Kd.slice 3 (Kd.int .i64)) _ _ t679 [.slice Ao9 t679.length co9] from (Kd.FK_slice_mk (Kd.R_reads' (Kd.R_mono (ok':=(fun k_=>(w.heap.size≤k_)∧k_≠gb678)) (Kd.R_types (HO681.out) BK678.out (by decide)) (fun k_ hk=>⟨hk.1.1,hk.2⟩))).2.1 (Kd.R_F (Kd.R_mono (ok':=(fun k_=>(w.heap.size≤k_)∧k_≠gb678)) (Kd.R_types (HO681.out) BK678.out (by decide)) (fun k_ hk=>⟨hk.1.1,hk.2⟩))))) (Reps.none _ _)));intro v683 w10 ho11 hb hg_ hnew_;clear hg_ hnew_;(first|rw [←Ny682.out] at ho11|(simp only [Int.reduceToNat] at ho11;rw [←Ny682.out] at ho11));have HO684:=Zk (Kd.N_lower ho11 (Qh (vB HB)));replace BK678:=Zk (Qd (uK BK678) hb);replace HB:=Zk (Qc (vB HB) hb);clear HO681;clear hb ho11))
  go_ret
  exact ⟨_,by first|rfl|(simp [Qe,Qf] <;>rfl)|(simp [*,Qe,Qf] <;>rfl),by (with_reducible repeat (first|apply Kd.N_alloc|apply Kd.N_drewN|apply Kd.N_drew));exact Kd.N_mono HO684.out (fun _ hk=>hk.1),(vB HB)⟩
 ·
  rw [if_neg c4] at H;have c4b0:((l1.length:Int)==(l0_0.length:Int))=false:=beq_eq_false_iff_ne.mpr c4;have c4b1:((l1.length:Int) !=(l0_0.length:Int))=true:=bne_iff_ne.mpr c4;have c4b2:(l1.length==l0_0.length)=false:=by first|simpa using c4|(simp at c4 ⊢;omega)
  have H':=Zk H;clear H;go_enter Try.func109,Try.ntmps109;go_wp2_with (first|(refine bE (N:=3) (cs:= #[.slice A0_0 l0_0.length c0_0]) (t:=26) ?_;intro gb678 hg w12 hbox hb;have BK678:=Zk (hbox);have GW678:=Zk ((by rw [hg];exact (Qh (uB HB)):w.heap.size≤gb678));have GE678:=GW678;replace HB:=Zk (Qc (uB HB) hb);clear hb hbox hg;have hcz13_0:=bC BK678;have hfz13_0:=Qg BK678.out 0))
  go_loopg [8,25] k (fun kq v8 v25 w'=> ∃ (x8_1:Int) (x25_1:Int),v8= .int .i64 x8_1∧v25= .int .i64 x25_1∧Z0 (Qbl.l0 kq l1 a2 (l1.length:Int) x8_1 l1 (l1.length:Int) x25_1 l0_0=some r)∧Z0 (kq≤k)∧Z0 (w'.heap[gb678]? =some (.cells #[(.slice A0_0 l0_0.length c0_0)] 26 (0,0)))∧Z0 (Below w.heap.size w w'))
  case atStart=>exact ⟨(0),(0),(by first|rfl|(simp;done)|(simp [*];done)),(by first|rfl|(simp;done)|(simp [*];done)),H',⟨Nat.le_refl _⟩,⟨uK BK678⟩,⟨(vB HB)⟩⟩
  case round=>
   clear H'
   try clear c1 c4 c4b0 c4b1 c4b2 hcz13_0 hfz13_0
   obtain ⟨x8_1,x25_1,rfl,rfl,HA,HK1,BK678,HB⟩:=hrel;cases gk with
   |zero=>exact absurd HA.out (by simp [Qbl.l0])
   |succ k1=>
    have H:=HA.out;clear HA;simp only [Qbl.l0] at H
    by_cases c14:x25_1<(l1.length:Int)
    ·
     rw [if_pos c14] at H;have c14b0:=decide_eq_true c14;clear c14
     by_cases c15:0≤x25_1
     ·
      rw [if_pos c15] at H;have c15b0:=decide_eq_true c15;clear c15
      by_cases c16:x25_1<(l1.length:Int)
      ·
       rw [if_pos c16] at H;have c16b0:=decide_eq_true c16;clear c16
       by_cases c17:0≤(l1.length:Int)
       ·
        rw [if_pos c17] at H;have c17b0:=decide_eq_true c17;have c17b1:decide (0≤l1.length)=true:=decide_eq_true (by omega);clear c17
        by_cases c18:(l1.length:Int)<(l0_0.length:Int)
        ·
         rw [if_pos c18] at H;have c18b0:=decide_eq_true c18;have c18b1:decide (l1.length<l0_0.length)=true:=decide_eq_true (Int.ofNat_lt.mp c18);clear c18;obtain ⟨t687,A19,H⟩:=bs H;(try dsimp only at H)
         by_cases c20:t687=true
         ·
          subst c20;rw [if_pos rfl] at H;obtain ⟨t688,A21,H⟩:=bs H;(try dsimp only at H)
          have H':=Zk H;clear H;have p685:0≤(x25_1:Int):=of_decide_eq_true (by first|(with_reducible assumption)|assumption);have q685:x25_1<(l1.length:Int):=of_decide_eq_true (by first|(with_reducible assumption)|assumption);obtain ⟨ad685,e685,hx685_0⟩:=Kd.at_int HR1.out x25_1 p685 q685;cases e685;replace hx685_0:=(HB.out.cell (World.block_lt_of_cell? w _ hx685_0)).trans hx685_0;replace p685:=eq_true p685;replace q685:=eq_true q685;have hcz22_0:=bC BK678;have hfz22_0:=Qg BK678.out 0;have p686:0≤((l1.length:Int):Int):=of_decide_eq_true (by first|(with_reducible assumption)|assumption);have q686:(l1.length:Int)<(l0_0.length:Int):=of_decide_eq_true (by first|(with_reducible assumption)|assumption);obtain ⟨ad686,e686,hx686_0⟩:=Kd.at_int HR0_0.out (l1.length:Int) p686 q686;cases e686;replace hx686_0:=(HB.out.cell (World.block_lt_of_cell? w _ hx686_0)).trans hx686_0
          (try simp only [Go.IntWalk.toNatUp] at hx686_0)
          replace p686:=eq_true p686;replace q686:=eq_true q686;go_wp2_with (first|(refine gA (some 36) Try.func59 #[.int .i64 (rd l0_0 (l1.length:Int)), .int .i64 x25_1] ?_;(with_reducible refine (Qch.calls (rd l0_0 (l1.length:Int)) x25_1 true _ A19.out).mono ?_);rintro e w' ⟨rfl,⟨nd,rfl⟩⟩;refine ⟨_,rfl,?_⟩)|(refine gA (some 39) Try.func60 #[.int .i64 x8_1, .int .i64 (rd l1 x25_1)] ?_;(with_reducible refine (Qc8.calls x8_1 (rd l1 x25_1) t688 _ A21.out).mono ?_);rintro e w' ⟨rfl,⟨nd,rfl⟩⟩;refine ⟨_,rfl,?_⟩));go_roundg k1
          case measure=>have:=HK1.out;omega
          case rel=>exact ⟨(t688),(wrap64 (x25_1+1)),(by first|rfl|(simp;done)|(simp [*];done)),(by first|rfl|(simp;done)|(simp [*];done)),H',⟨by have:=HK1.out;omega⟩,⟨uK BK678⟩,⟨(vB HB)⟩⟩
         ·
          replace c20:=Bool.eq_false_iff.mpr c20;subst c20;rw [if_neg (show ¬ (false=true) by decide)] at H;have H':=Zk H;clear H;have p685:0≤(x25_1:Int):=of_decide_eq_true (by first|(with_reducible assumption)|assumption);have q685:x25_1<(l1.length:Int):=of_decide_eq_true (by first|(with_reducible assumption)|assumption);obtain ⟨ad685,e685,hx685_0⟩:=Kd.at_int HR1.out x25_1 p685 q685;cases e685;replace hx685_0:=(HB.out.cell (World.block_lt_of_cell? w _ hx685_0)).trans hx685_0;replace p685:=eq_true p685;replace q685:=eq_true q685;have hcz23_0:=bC BK678;have hfz23_0:=Qg BK678.out 0;have p686:0≤((l1.length:Int):Int):=of_decide_eq_true (by first|(with_reducible assumption)|assumption);have q686:(l1.length:Int)<(l0_0.length:Int):=of_decide_eq_true (by first|(with_reducible assumption)|assumption);obtain ⟨ad686,e686,hx686_0⟩:=Kd.at_int HR0_0.out (l1.length:Int) p686 q686;cases e686;replace hx686_0:=(HB.out.cell (World.block_lt_of_cell? w _ hx686_0)).trans hx686_0
          (try simp only [Go.IntWalk.toNatUp] at hx686_0)
          replace p686:=eq_true p686;replace q686:=eq_true q686;go_wp2_with (first|(refine gA (some 36) Try.func59 #[.int .i64 (rd l0_0 (l1.length:Int)), .int .i64 x25_1] ?_;(with_reducible refine (Qch.calls (rd l0_0 (l1.length:Int)) x25_1 false _ A19.out).mono ?_);rintro e w' ⟨rfl,⟨nd,rfl⟩⟩;refine ⟨_,rfl,?_⟩));go_roundg k1
          case measure=>have:=HK1.out;omega
          case rel=>exact ⟨(x8_1),(wrap64 (x25_1+1)),(by first|rfl|(simp;done)|(simp [*];done)),(by first|rfl|(simp;done)|(simp [*];done)),H',⟨by have:=HK1.out;omega⟩,⟨uK BK678⟩,⟨(vB HB)⟩⟩
        ·
         rw [if_neg c18] at H;exact absurd H (by simp)
       ·
        rw [if_neg c17] at H;exact absurd H (by simp)
      ·
       rw [if_neg c16] at H;exact absurd H (by simp)
     ·
      rw [if_neg c15] at H;exact absurd H (by simp)
    ·
     rw [if_neg c14] at H;have c14b0:=decide_eq_false c14;clear c14;have H':=Zk H;clear H;go_wp2
     go_loopg [11,12] k1 (fun kq v11 v12 w'=> ∃ (x11_2:List (List Int)) (x12_2:Int),v12= .int .i64 x12_2∧Z0 (Qbl.l1 kq l1 a2 x11_2 x12_2 l0_0=some r)∧Z0 (kq≤k1)∧Z0 (Kd.N (Kd.slice 3 (Kd.int .i64)) 24 w' w.heap.size (fun k_=>(w.heap.size≤k_)∧k_≠gb678) v11 x11_2)∧Z0 (w'.heap[gb678]? =some (.cells #[(.slice A0_0 l0_0.length c0_0)] 26 (0,0)))∧Z0 (Below w.heap.size w w'))
     case atStart=>exact ⟨(([] :List (List Int))),(x8_1),(by first|rfl|(simp;done)|(simp [*];done)),H',⟨Nat.le_refl _⟩,⟨by first|exact Kd.S_nil _ _ _ _ _|exact Kd.N_nil _ _ _ _ _|exact Kd.V_nil _ _ _ _ _|exact Kd.Q_nil _ _ _ _ _|exact Kd.R_nil _ _ _ _ _⟩,⟨uK BK678⟩,⟨(vB HB)⟩⟩
     case round=>
      clear H'
      try clear c14b0
      obtain ⟨x11_2,x12_2,rfl,HA,HK2,HO_11,BK678,HB⟩:=hrel;cases gk with
      |zero=>exact absurd HA.out (by simp [Qbl.l1])
      |succ k2=>
       have H:=HA.out;clear HA;simp only [Qbl.l1] at H
       by_cases c24:x12_2≤a2
       ·
        rw [if_pos c24] at H;have c24b0:=decide_eq_true c24;clear c24;obtain ⟨t689,A25,H⟩:=bs H;(try dsimp only at H)
        obtain ⟨y692,hy692⟩: ∃ y_:List Int,y_=(([x12_2] :List Int)):=⟨_,rfl⟩
        replace H:(if t689.length+y692.length<17592186044416 then ((Qbl.f k2 l0_0 (t689++y692) a2).bind fun t698=>(if x11_2.length+t698.length<5864062014805 then (Qbl.l1 k2 l1 a2 (x11_2++t698) (wrap64 (x12_2+1)) l0_0) else (none))) else (none))=some r:=by first|(rw [hy692];with_reducible exact H)|(have H2_:=(Option.bind_some _ _).symm.trans H;rw [hy692];with_reducible exact H2_)|(have H2_:=(Option.bind_some _ _).symm.trans H;with_reducible exact H2_)|with_reducible exact H|(rw [hy692];exact H)|exact H
        have Ny692:=Zk hy692;clear hy692
        by_cases c26:t689.length+y692.length<17592186044416
        ·
         rw [if_pos c26] at H;have LMc26:=Zk c26;clear c26;obtain ⟨y695,hy695⟩: ∃ y_:List Int,y_=(t689++y692):=⟨_,rfl⟩
         replace H:((Qbl.f k2 l0_0 y695 a2).bind fun t698=>(if x11_2.length+t698.length<5864062014805 then (Qbl.l1 k2 l1 a2 (x11_2++t698) (wrap64 (x12_2+1)) l0_0) else (none)))=some r:=by first|(rw [hy695];with_reducible exact H)|(have H2_:=(Option.bind_some _ _).symm.trans H;rw [hy695];with_reducible exact H2_)|(have H2_:=(Option.bind_some _ _).symm.trans H;with_reducible exact H2_)|with_reducible exact H|(rw [hy695];exact H)|exact H
         have Ny695:=Zk hy695;clear hy695;obtain ⟨t698,A27,H⟩:=bs H;(try dsimp only at H)
         by_cases c28:x11_2.length+t698.length<5864062014805
         ·
          rw [if_pos c28] at H;have LMc28:=Zk c28;clear c28;obtain ⟨y701,hy701⟩: ∃ y_:List (List Int),y_=(x11_2++t698):=⟨_,rfl⟩
          replace H:(Qbl.l1 k2 l1 a2 y701 (wrap64 (x12_2+1)) l0_0)=some r:=by first|(rw [hy701];with_reducible exact H)|(have H2_:=(Option.bind_some _ _).symm.trans H;rw [hy701];with_reducible exact H2_)|(have H2_:=(Option.bind_some _ _).symm.trans H;with_reducible exact H2_)|with_reducible exact H|(rw [hy701];exact H)|exact H
          have Ny701:=Zk hy701;clear hy701;have H':=Zk H;clear H;obtain ⟨Ao29,co29,eo29⟩:=Kd.N_slice HO_11.out;subst eo29
          try go_wp2
          replace HO_11:=Zk (Kd.N_drew HO_11.out);replace BK678:=Zk (Qbj BK678.out);replace HB:=Zk (Qbb HB.out);refine sU (n:=11) (S:=fun w'=>w'.cell? ⟨gb678,0,none⟩=some (.slice A0_0 l0_0.length c0_0)) (ds:= []) ((Qb4 BK678.out 0).trans rfl) (fun hHeld=> ?_);refine Qe5 Qbl.tab15 Qbl.bits15 (fun HT_ HW_=> ?_);generalize wr.drew=w30 at HO_11 BK678 HB hHeld ⊢;refine pU 0 47 ?_;refine pU 2 49 ?_;refine pU 4 51 ?_;refine pU 7 54 ?_;refine tU 1 48 hHeld ?_;refine join_ (σ:=Value × Value) 4 #[true,true,true,true,true,true,false,true,false,false,false] (fun s_=> [(50,s_.1),(52,s_.2)]) (fun s_ w'=>(w'.cell? ⟨gb678,0,none⟩=some (.slice A0_0 l0_0.length c0_0))∧(Kd.R (Kd.int .i64) 3 w' w.heap.size (fun k_=>(w.heap.size≤k_)∧some k_≠(s_.2:Value).ownBlock) s_.1 t689)∧(Kd.R (Kd.int .i64) 3 w' w.heap.size (fun k_=>(w.heap.size≤k_)∧some k_≠(s_.1:Value).ownBlock) s_.2 y692)∧(Kd.N (Kd.slice 3 (Kd.int .i64)) 24 w' w.heap.size (fun k_=>(w.heap.size≤k_)∧some k_≠(s_.1:Value).ownBlock∧some k_≠(s_.2:Value).ownBlock∧k_≠gb678) (.slice Ao29 x11_2.length co29) x11_2)∧(w'.heap[gb678]? =some (.cells #[.slice A0_0 l0_0.length c0_0] 26 (0,0)))∧(Below w.heap.size w w')) ?_ ?_;rotate_left
          ·
           intro hCont;refine two_ (i:=3) (j:=5) (Ni:=some 50) (Nj:=some 52) #[true,true,true,true,true,false,false,true,false,false,false] #[true,true,true,false,true,true,false,true,false,false,false] rfl rfl rfl rfl (two_of HT_.out (by kernel_rfl)) (by decide) (by decide) (fun K hK=> ?_) (fun K hK=> ?_)
           ·
            skip
            refine Qfe Try.func70 (by kernel_rfl) rfl #[.slice A1 l1.length c1] (by rfl) rfl rfl (by (try simp only [List.map_toArray,List.map_cons,List.map_nil]);first|done|rfl|(simp only [List.length_drop,List.length_take];rfl)) ?_
            with_reducible refine (Qdp.calls _ _ l1 t689 _ ?side1 ?side2 A25.out).mono ?_
            (case side1=>repeat (first|exact (Kd.C_below HR1.out HB.out)|(with_reducible refine Kd.C_alloc ?_ _)|(with_reducible refine Kd.C_drewN ?_ _)|(with_reducible refine Kd.C_drew ?_)))
            (case side2=>exact HC1.out)
            rintro e w31 ⟨v690,rfl,ho0,hb⟩;refine ⟨_,rfl,?_⟩;replace HO_11:=Zk (Kd.N_elder' (by (with_reducible repeat (first|apply Kd.N_alloc|apply Kd.N_drewN|apply Kd.N_drew));exact HO_11.out) (Kd.R_base ho0) hb);have HO691:=Zk (Kd.R_lower (Kd.R_newM (M:=fun k_=>(w.heap.size≤k_)) ho0 (Qh (vB HB)) (fun k_ h_=>h_)) (Qh (vB HB)));replace BK678:=Zk (Qd (uK BK678) hb);replace HB:=Zk (Qc (vB HB) hb)
            skip
            skip
            skip
            skip
            skip
            refine hK.out _ _ ((Qb4 BK678.out 0).trans rfl) (fun hHeld=> ?_);clear hK K;refine nU 50 ?_;refine oU 5 (some 52) fun K hK=> ?_
            refine Kd.R_lit_step (Kd.int .i64) _ 3 ?hg (N:=52) ?hd (xs:=([x12_2] :List Int)) (inner:= [.int .i64 x12_2]) (ok:=fun _=>True) (okp:=fun _=>True) ?hr ?hp (fun _ hk=>hk) trivial (Below.refl _ _) (Nat.le_refl _) (by simp) ?_;(case hd=>rfl);(case hg=>rfl);(case hr=>first|(go_simp;done)|(go_simp;rfl));(case hp=>exact (Reps.one (show Kd.M (Kd.int .i64) _ _ _ x12_2 [.int .i64 x12_2] from rfl) (Reps.none _ _)))
            intro v693 w32 ho33 hb hg_ hnew_;clear hg_ hnew_
            (first|rw [←Ny692.out] at ho33|(simp only [Int.reduceToNat] at ho33;rw [←Ny692.out] at ho33))
            replace HO_11:=Zk (Kd.N_elder' (by (with_reducible repeat (first|apply Kd.N_alloc|apply Kd.N_drewN|apply Kd.N_drew));exact HO_11.out) (Kd.R_base ho33) hb);have HO694:=Zk (Kd.R_lower (Kd.R_new' (Kd.R_newM (M:=fun k_=>(w.heap.size≤k_)) ho33 (Qh (vB HB)) (fun k_ h_=>h_)) (Kd.R_lt (uR HO691))) (Qh (vB HB)));replace HO691:=Zk (Kd.R_elder' (uR HO691) (Kd.R_base ho33) hb);replace BK678:=Zk (Qd (uK BK678) hb);replace HB:=Zk (Qc (vB HB) hb);clear hb ho33;refine hK.out _ _ ((Qb4 BK678.out 0).trans rfl) (fun hHeld=> ?_);clear hK K;refine nU 52 ?_;exact Qix (by simp only [Qhq,Act.put,List.setIfInBounds_toArray,List.set_cons_zero,List.set_cons_succ]) (hCont (v690,v693) _ ⟨hHeld,(Kd.R_mono (uR HO691) (fun _ hk=>⟨hk.1.1,hk.2⟩)),(Kd.R_mono (uR HO694) (fun _ hk=>⟨hk.1.1,hk.2⟩)),(by (with_reducible repeat (first|apply Kd.N_alloc|apply Kd.N_drewN|apply Kd.N_drew));exact Kd.N_mono HO_11.out (fun _ hk=>⟨hk.1.1.1,⟨hk.1.2,⟨hk.2,hk.1.1.2⟩⟩⟩)),(uK BK678),(vB HB)⟩)
           ·
            skip
            refine Kd.R_lit_step (Kd.int .i64) _ 3 ?hg (N:=52) ?hd (xs:=([x12_2] :List Int)) (inner:= [.int .i64 x12_2]) (ok:=fun _=>True) (okp:=fun _=>True) ?hr ?hp (fun _ hk=>hk) trivial (Below.refl _ _) (Nat.le_refl _) (by simp) ?_;(case hd=>rfl);(case hg=>rfl);(case hr=>first|(go_simp;done)|(go_simp;rfl));(case hp=>exact (Reps.one (show Kd.M (Kd.int .i64) _ _ _ x12_2 [.int .i64 x12_2] from rfl) (Reps.none _ _)))
            intro v693 w31 ho32 hb hg_ hnew_;clear hg_ hnew_
            (first|rw [←Ny692.out] at ho32|(simp only [Int.reduceToNat] at ho32;rw [←Ny692.out] at ho32))
            replace HO_11:=Zk (Kd.N_elder' (by (with_reducible repeat (first|apply Kd.N_alloc|apply Kd.N_drewN|apply Kd.N_drew));exact HO_11.out) (Kd.R_base ho32) hb);have HO694:=Zk (Kd.R_lower (Kd.R_newM (M:=fun k_=>(w.heap.size≤k_)) ho32 (Qh (vB HB)) (fun k_ h_=>h_)) (Qh (vB HB)));replace BK678:=Zk (Qd (uK BK678) hb);replace HB:=Zk (Qc (vB HB) hb);clear hb ho32;refine hK.out _ _ ((Qb4 BK678.out 0).trans rfl) (fun hHeld=> ?_);clear hK K;refine nU 52 ?_;refine oU 3 (some 50) fun K hK=> ?_
            refine Qfe Try.func70 (by kernel_rfl) rfl #[.slice A1 l1.length c1] (by rfl) rfl rfl (by (try simp only [List.map_toArray,List.map_cons,List.map_nil]);first|done|rfl|(simp only [List.length_drop,List.length_take];rfl)) ?_
            with_reducible refine (Qdp.calls _ _ l1 t689 _ ?side1 ?side2 A25.out).mono ?_
            (case side1=>repeat (first|exact (Kd.C_below HR1.out HB.out)|(with_reducible refine Kd.C_alloc ?_ _)|(with_reducible refine Kd.C_drewN ?_ _)|(with_reducible refine Kd.C_drew ?_)))
            (case side2=>exact HC1.out)
            rintro e w33 ⟨v690,rfl,ho0,hb⟩;refine ⟨_,rfl,?_⟩;replace HO_11:=Zk (Kd.N_elder' (by (with_reducible repeat (first|apply Kd.N_alloc|apply Kd.N_drewN|apply Kd.N_drew));exact HO_11.out) (Kd.R_base ho0) hb);have HO691:=Zk (Kd.R_lower (Kd.R_new' (Kd.R_newM (M:=fun k_=>(w.heap.size≤k_)) ho0 (Qh (vB HB)) (fun k_ h_=>h_)) (Kd.R_lt (uR HO694))) (Qh (vB HB)));replace HO694:=Zk (Kd.R_elder' (uR HO694) (Kd.R_base ho0) hb);replace BK678:=Zk (Qd (uK BK678) hb);replace HB:=Zk (Qc (vB HB) hb)
            skip
            skip
            skip
            skip
            skip
            refine hK.out _ _ ((Qb4 BK678.out 0).trans rfl) (fun hHeld=> ?_);clear hK K;refine nU 50 ?_;exact Qix (by simp only [Qhq,Act.put,List.setIfInBounds_toArray,List.set_cons_zero,List.set_cons_succ]) (hCont (v690,v693) _ ⟨hHeld,(Kd.R_mono (uR HO691) (fun _ hk=>⟨hk.1.1,hk.2⟩)),(Kd.R_mono (uR HO694) (fun _ hk=>⟨hk.1.1,hk.2⟩)),(by (with_reducible repeat (first|apply Kd.N_alloc|apply Kd.N_drewN|apply Kd.N_drew));exact Kd.N_mono HO_11.out (fun _ hk=>⟨hk.1.1.1,⟨hk.2,⟨hk.1.2,hk.1.1.2⟩⟩⟩)),(uK BK678),(vB HB)⟩)
          rintro ⟨v690,v693⟩ w34 ⟨hS_,h0_,h1_,h2_,h3_,h4_⟩;have n0_:Z0 (Kd.R (Kd.int .i64) 3 w34 w.heap.size (fun k_=>(w.heap.size≤k_)∧some k_≠(v693:Value).ownBlock) v690 t689):=⟨h0_⟩
          have n1_:Z0 (Kd.R (Kd.int .i64) 3 w34 w.heap.size (fun k_=>(w.heap.size≤k_)∧some k_≠(v690:Value).ownBlock) v693 y692):=⟨h1_⟩
          have n2_:Z0 (Kd.N (Kd.slice 3 (Kd.int .i64)) 24 w34 w.heap.size (fun k_=>(w.heap.size≤k_)∧some k_≠(v690:Value).ownBlock∧some k_≠(v693:Value).ownBlock∧k_≠gb678) (.slice Ao29 x11_2.length co29) x11_2):=⟨h2_⟩
          have n3_:Z0 (w34.heap[gb678]? =some (.cells #[.slice A0_0 l0_0.length c0_0] 26 (0,0))):=⟨h3_⟩
          have n4_:Z0 (Below w.heap.size w w34):=⟨h4_⟩
          clear HO_11;clear BK678;clear HB;clear h0_ h1_ h2_ h3_ h4_;have HO691:=n0_;have HO694:=n1_;have HO_11:=n2_;have BK678:=n3_;have HB:=n4_;clear n0_ n1_ n2_ n3_ n4_;have hHeld:w34.cell? ⟨gb678,0,none⟩=some (.slice A0_0 l0_0.length c0_0):=hS_;obtain ⟨Ao36,co36,eo36⟩:=Kd.R_slice HO694.out
          (first|subst eo36|(injection eo36 with f1_ f2_ f3_;have f4_:=f1_.symm;have f5_:=f3_.symm;clear f1_ f2_ f3_;subst f4_;subst f5_))
          refine Qix (a':= ?_) ?_ ?_;rotate_left
          ·
           simp only [Qhq,Act.put,List.setIfInBounds_toArray,List.set_cons_zero,List.set_cons_succ];rfl
          refine oU 6 (some 53) fun K hK=> ?_
          refine Kd.R_append_rows_step (Kd.int .i64) (w0:=w) w.heap.size (by rfl) (.tmp 50) (.tmp 52) 24 3 (.int .i64 0) 8 rfl Try.underlying24 Qed rfl (by decide) (by omega) v690 t689 y692 _ _ _ (fun k_=>(w.heap.size≤k_)∧some k_≠(.slice Ao36 y692.length co36:Value).ownBlock) (fun _=>False) rfl rfl ?aO ?aR (fun _ _ h=>h) (fun _ h=>h.elim) ?aF ?aB ?aS ?aL ?_
          (case aR=>repeat (first|exact (Kd.R_reads' HO694.out).2.2|(with_reducible refine Kd.C_alloc ?_ _)|(with_reducible refine Kd.C_drewN ?_ _)|(with_reducible refine Kd.C_drew ?_)))
          (case aB=>exact (vB HB))
          (case aF=>exact (fun k_ hk=>⟨(Nat.le_trans (Qh (vB HB)) hk),Kd.fresh' (Kd.R_lt (uR HO694)) k_ hk⟩))
          (case aO=>exact (uR HO691))
          (case aS=>exact (Qh (vB HB)))
          (case aL=>have:=LMc26.out;omega)
          intro v696 w35 ho hb hg hat;rw [←Ny695.out] at ho;replace HO_11:=Zk (Kd.N_afterv (ok:=(fun k_=>(w.heap.size≤k_)∧some k_≠(.slice Ao36 y692.length co36:Value).ownBlock∧k_≠gb678)) (by (with_reducible repeat (first|apply Kd.N_alloc|apply Kd.N_drewN|apply Kd.N_drew));exact Kd.N_mono HO_11.out (fun _ hk=>⟨⟨hk.1,⟨hk.2.2.1,hk.2.2.2⟩⟩,hk.2.1⟩)) hg hat);replace BK678:=Zk (Qb8 (uK BK678) hg (Kd.R_ne HO691.out BK678.out (by decide)));replace HO694:=Zk (Kd.R_after (ok:=(fun k_=>(w.heap.size≤k_))) (uR HO694) hg hat);replace HB:=Zk (hb);have HO697:=Zk (ho);clear HO691;clear ho hb hg hat;obtain ⟨Ao37,co37,eo37⟩:=Kd.R_slice HO697.out
          (first|subst eo37|(injection eo37 with f1_ f2_ f3_;have f4_:=f1_.symm;have f5_:=f3_.symm;clear f1_ f2_ f3_;subst f4_;subst f5_))
          refine hK.out _ _ ((Qb4 BK678.out 0).trans rfl) (fun hHeld=> ?_);clear hK K;refine nU 53 ?_;refine oU 8 (some 55) fun K hK=> ?_
          refine Qfe Try.func109 (by kernel_rfl) rfl #[.agg #[.slice A0_0 l0_0.length c0_0], .slice Ao37 y695.length co37, .int .i64 a2] (by rfl) rfl rfl (by (try simp only [List.map_toArray,List.map_cons,List.map_nil]);first|done|rfl|(simp only [List.length_drop,List.length_take];rfl)) ?_
          with_reducible refine (ih k2 (by have:=HK1.out;have:=HK2.out;omega) _ _ l0_0 _ _ y695 a2 t698 _ ?side1 ?side2 ?side3 ?side4 A27.out).mono ?_
          (case side1=>repeat (first|exact (Kd.C_below HR0_0.out HB.out)|(with_reducible refine Kd.C_alloc ?_ _)|(with_reducible refine Kd.C_drewN ?_ _)|(with_reducible refine Kd.C_drew ?_)))
          (case side2=>exact HC0_0.out)
          (case side3=>repeat (first|exact (Kd.R_reads' HO697.out).2.2|(with_reducible refine Kd.C_alloc ?_ _)|(with_reducible refine Kd.C_drewN ?_ _)|(with_reducible refine Kd.C_drew ?_)))
          (case side4=>exact (Kd.R_reads' HO697.out).2.1)
          rintro e w38 ⟨v699,rfl,ho0,hb⟩;refine ⟨_,rfl,?_⟩;have HO700:=Zk (Kd.N_lower (Kd.N_mono (ok':=fun k_=>(w.heap.size≤k_)∧some k_≠(.slice Ao29 x11_2.length co29:Value).ownBlock∧some k_≠(.slice Ao36 y692.length co36:Value).ownBlock∧some k_≠(.slice Ao37 y695.length co37:Value).ownBlock∧k_≠gb678) ho0 (fun k_ hk_=>⟨(Nat.le_trans (Qh (vB HB)) hk_),(Kd.fresh' (Kd.N_lt (by (with_reducible repeat (first|apply Kd.N_alloc|apply Kd.N_drewN|apply Kd.N_drew));exact HO_11.out)) k_ hk_),(Kd.fresh' (Kd.R_lt (uR HO694)) k_ hk_),(Kd.fresh' (Kd.R_lt (uR HO697)) k_ hk_),(Kd.freshB (uK BK678) k_ hk_)⟩)) (Qh (vB HB)));replace HO_11:=Zk (Kd.N_elder' (by (with_reducible repeat (first|apply Kd.N_alloc|apply Kd.N_drewN|apply Kd.N_drew));exact HO_11.out) (Kd.N_base ho0) hb);replace HO694:=Zk (Kd.R_below (uR HO694) hb);replace HO697:=Zk (Kd.R_below (uR HO697) hb);replace BK678:=Zk (Qd (uK BK678) hb);replace HB:=Zk (Qc (vB HB) hb)
          skip
          skip
          skip
          skip
          skip
          obtain ⟨Ao40,co40,eo40⟩:=Kd.N_slice HO700.out
          (first|subst eo40|(injection eo40 with f1_ f2_ f3_;have f4_:=f1_.symm;have f5_:=f3_.symm;clear f1_ f2_ f3_;subst f4_;subst f5_))
          refine hK.out _ _ ((Qb4 BK678.out 0).trans rfl) (fun hHeld=> ?_);clear hK K;refine nU 55 ?_;refine oU 9 (some 56) fun K hK=> ?_
          refine Kd.N_append_rows_step (Kd.slice 3 (Kd.int .i64)) (w0:=w) w.heap.size (by rfl) (.tmp 47) (.tmp 55) 29 24 (.slice none 0 0) 24 rfl Try.underlying29 Qfo rfl (by decide) (by omega) (.slice Ao29 x11_2.length co29) x11_2 t698 _ _ _ (fun k_=>(w.heap.size≤k_)∧some k_≠(.slice Ao36 y692.length co36:Value).ownBlock∧some k_≠(.slice Ao37 y695.length co37:Value).ownBlock∧k_≠gb678) (fun k_=>((fun k_=>(w.heap.size≤k_)∧some k_≠(.slice Ao36 y692.length co36:Value).ownBlock∧some k_≠(.slice Ao37 y695.length co37:Value).ownBlock∧k_≠gb678)) k_∧some k_≠(.slice Ao29 x11_2.length co29:Value).ownBlock) rfl rfl ?aO ?aR (fun _ hk=>hk) ?aF ?aB ?aS ?aL ?_
          (case aR=>exact (by skip;exact Kd.N_F (Kd.N_mono (ok':=(fun k_=>((fun k_=>(w.heap.size≤k_)∧some k_≠(.slice Ao36 y692.length co36:Value).ownBlock∧some k_≠(.slice Ao37 y695.length co37:Value).ownBlock∧k_≠gb678)) k_∧some k_≠(.slice Ao29 x11_2.length co29:Value).ownBlock)) (HO700.out) (fun k_ hk=>⟨⟨hk.1,⟨hk.2.2.1,⟨hk.2.2.2.1,hk.2.2.2.2⟩⟩⟩,hk.2.1⟩))))
          (case aB=>exact (vB HB))
          (case aF=>exact (fun k_ hk=>⟨(Nat.le_trans (Qh (vB HB)) hk),Kd.fresh' (Kd.R_lt (uR HO694)) k_ hk,Kd.fresh' (Kd.R_lt (uR HO697)) k_ hk,Kd.freshB (uK BK678) k_ hk⟩))
          (case aO=>exact (by (with_reducible repeat (first|apply Kd.N_alloc|apply Kd.N_drewN|apply Kd.N_drew));exact Kd.N_mono HO_11.out (fun _ hk=>⟨hk.1.1.1,⟨hk.1.1.2.1,⟨hk.1.2,hk.1.1.2.2⟩⟩⟩)))
          (case aS=>exact (Qh (vB HB)))
          (case aL=>have:=LMc28.out;omega)
          intro v702 w39 ho hb hg hat;rw [←Ny701.out] at ho;replace BK678:=Zk (Qb8 (uK BK678) hg (Kd.N_ne HO_11.out BK678.out (by decide)));replace HO694:=Zk (Kd.R_over' (uR HO694) (Kd.N_typed (by (with_reducible repeat (first|apply Kd.N_alloc|apply Kd.N_drewN|apply Kd.N_drew));exact HO_11.out)) (by decide) hg);replace HO697:=Zk (Kd.R_over' (uR HO697) (Kd.N_typed (by (with_reducible repeat (first|apply Kd.N_alloc|apply Kd.N_drewN|apply Kd.N_drew));exact HO_11.out)) (by decide) hg);replace HO700:=Zk (Kd.N_afterv (ok:=(fun k_=>(w.heap.size≤k_)∧some k_≠(.slice Ao36 y692.length co36:Value).ownBlock∧some k_≠(.slice Ao37 y695.length co37:Value).ownBlock∧k_≠gb678)) (by (with_reducible repeat (first|apply Kd.N_alloc|apply Kd.N_drewN|apply Kd.N_drew));exact Kd.N_mono HO700.out (fun _ hk=>⟨⟨hk.1,⟨hk.2.2.1,⟨hk.2.2.2.1,hk.2.2.2.2⟩⟩⟩,hk.2.1⟩)) hg hat);replace HB:=Zk (hb);have HO703:=Zk (ho);clear HO_11;clear ho hb hg hat;refine hK.out _ _ ((Qb4 BK678.out 0).trans rfl) (fun hHeld=> ?_);clear hK K;refine nU 56 ?_;refine pU 10 11 ?_;refine dU ?_
          try go_wp2
          go_roundg k2
          case measure=>have:=HK1.out;have:=HK2.out;omega
          case rel=>exact ⟨(y701),(wrap64 (x12_2+1)),(by first|rfl|(simp;done)|(simp [*];done)),H',⟨by have:=HK1.out;have:=HK2.out;omega⟩,⟨by (with_reducible repeat (first|apply Kd.N_alloc|apply Kd.N_drewN|apply Kd.N_drew));exact Kd.N_mono HO703.out (fun _ hk=>⟨hk.1,hk.2.2.2⟩)⟩,⟨uK BK678⟩,⟨(vB HB)⟩⟩
         ·
          rw [if_neg c28] at H;exact absurd H (by simp)
        ·
         rw [if_neg c26] at H;exact absurd H (by simp)
       ·
        rw [if_neg c24] at H;have c24b0:=decide_eq_false c24;clear c24;obtain rfl:=Option.some.inj H;go_wp2
        go_ret
        exact ⟨_,by first|rfl|(simp [Qe,Qf] <;>rfl)|(simp [*,Qe,Qf] <;>rfl),by (with_reducible repeat (first|apply Kd.N_alloc|apply Kd.N_drewN|apply Kd.N_drew));exact Kd.N_mono HO_11.out (fun _ hk=>hk.1),(vB HB)⟩
def Qds.f (k:Nat) (l0_0:List Int) (a1:Int):Option ((List (List Int)) × Bool):=(Qx.f k l0_0).bind fun t705=>(if t705=true then (if (l0_0.length:Int)>6 then (some (([] :List (List Int)),false)) else ((Qcn.f a1 0 4).bind fun t706=>(if t706=true then ((Qbl.f k l0_0 ([] :List Int) a1).bind fun t707=>(some (t707,true))) else (some (([] :List (List Int)),false))))) else (some (([] :List (List Int)),false)))
theorem Qds.mono: ∀ a0 a1 k,LeO (Qds.f k a0 a1) (Qds.f (k+1) a0 a1):=by
 intro a0 a1 k;unfold Qds.f
 repeat' (with_reducible first|apply Qbl.mono|apply Qx.mono|exact LeO.refl _|exact LeO.none _|refine LeO.ite ?_ ?_|refine LeO.bind ?_ (fun _=> ?_))
set_option maxHeartbeats 8000000 in
set_option maxRecDepth 100000 in
theorem Qds.calls (k:Nat) (A0_0:Option Addr) (c0_0:Nat) (l0_0:List Int) (a1:Int) (r1:List (List Int)) (r2:Bool) (w:World) (hr0_0:Kd.C (Kd.int .i64) w A0_0 l0_0.length l0_0) (hc0_0:l0_0.length≤c0_0) (h:Qds.f k l0_0 a1=some (r1,r2)):
 Calls Try.prog 51 #[.agg #[.slice A0_0 l0_0.length c0_0], .int .i64 a1] w fun e w'=> ∃ v0_:Value,e= .returned (.tuple #[v0_, .bool r2])∧Kd.N (Kd.slice 3 (Kd.int .i64)) 24 w' w.heap.size (fun k_=>(w.heap.size≤k_)) v0_ r1∧Below w.heap.size w w':=by
 have hu26:=Try.underlying26;have HR0_0:=Zk hr0_0;have HC0_0:=Zk hc0_0;clear hr0_0 hc0_0;have HB:=Zk (Below.refl w.heap.size w);have H:((Qx.f k l0_0).bind fun t705=>(if t705=true then (if (l0_0.length:Int)>6 then (some (([] :List (List Int)),false)) else ((Qcn.f a1 0 4).bind fun t706=>(if t706=true then ((Qbl.f k l0_0 ([] :List Int) a1).bind fun t707=>(some (t707,true))) else (some (([] :List (List Int)),false))))) else (some (([] :List (List Int)),false))))=some (r1,r2):=h;clear h;obtain ⟨t705,A3,H⟩:=bs H;(try dsimp only at H)
 by_cases c4:t705=true
 ·
  subst c4;rw [if_pos rfl] at H
  by_cases c5:(l0_0.length:Int)>6
  ·
   rw [if_pos c5] at H;have c5b0:=decide_eq_true c5;have c5b1:decide (6<l0_0.length)=true:=decide_eq_true (by omega);clear c5;simp only [Option.some.injEq,Prod.mk.injEq] at H;obtain ⟨rfl,rfl⟩:=H;go_enter Try.func51,Try.ntmps51;go_wp2_with (first|((with_reducible refine Qb2 (N:=2) rfl ?_);(try (refine Qcx (by rfl) ?_;dsimp only));refine bE (N:=2) (cs:= #[.slice A0_0 l0_0.length c0_0]) (t:=26) ?_;intro gb704 hg w6 hbox hb;have BK704:=Zk (hbox);have GW704:=Zk ((by rw [hg];exact (Qh (uB HB)):w.heap.size≤gb704));have GE704:=GW704;replace HB:=Zk (Qc (uB HB) hb);clear hb hbox hg;have hcz7_0:=bC BK704;have hfz7_0:=Qg BK704.out 0)|(refine gA (some 7) Try.func88 #[.agg #[.slice A0_0 l0_0.length c0_0]] ?_;(with_reducible refine (Qx.calls k _ _ l0_0 true _ (uD HR0_0 HB) HC0_0.out A3.out).mono ?_);rintro e w8 ⟨rfl,hb⟩;refine ⟨_,rfl,?_⟩;replace BK704:=Zk (Qd (uK BK704) hb);replace HB:=Zk (Qc (vB HB) hb);(try clear hb);have hcz9_0:=bC BK704;have hfz9_0:=Qg BK704.out 0))
   go_ret2
   exact ⟨_,by first|rfl|(simp [Qe,Qf] <;>rfl)|(simp [*,Qe,Qf] <;>rfl),by first|exact Kd.S_nil _ _ _ _ _|exact Kd.N_nil _ _ _ _ _|exact Kd.V_nil _ _ _ _ _|exact Kd.Q_nil _ _ _ _ _|exact Kd.R_nil _ _ _ _ _,(vB HB)⟩
  ·
   rw [if_neg c5] at H;have c5b0:=decide_eq_false c5;have c5b1:decide (6<l0_0.length)=false:=decide_eq_false (by omega);clear c5;obtain ⟨t706,A10,H⟩:=bs H;(try dsimp only at H)
   by_cases c11:t706=true
   ·
    subst c11;rw [if_pos rfl] at H;obtain ⟨t707,A12,H⟩:=bs H;(try dsimp only at H)
    simp only [Option.some.injEq,Prod.mk.injEq] at H;obtain ⟨rfl,rfl⟩:=H;go_enter Try.func51,Try.ntmps51;go_wp2_with (first|((with_reducible refine Qb2 (N:=2) rfl ?_);(try (refine Qcx (by rfl) ?_;dsimp only));refine bE (N:=2) (cs:= #[.slice A0_0 l0_0.length c0_0]) (t:=26) ?_;intro gb704 hg w13 hbox hb;have BK704:=Zk (hbox);have GW704:=Zk ((by rw [hg];exact (Qh (uB HB)):w.heap.size≤gb704));have GE704:=GW704;replace HB:=Zk (Qc (uB HB) hb);clear hb hbox hg;have hcz14_0:=bC BK704;have hfz14_0:=Qg BK704.out 0)|(refine gA (some 7) Try.func88 #[.agg #[.slice A0_0 l0_0.length c0_0]] ?_;(with_reducible refine (Qx.calls k _ _ l0_0 true _ (uD HR0_0 HB) HC0_0.out A3.out).mono ?_);rintro e w15 ⟨rfl,hb⟩;refine ⟨_,rfl,?_⟩;replace BK704:=Zk (Qd (uK BK704) hb);replace HB:=Zk (Qc (vB HB) hb);(try clear hb);have hcz16_0:=bC BK704;have hfz16_0:=Qg BK704.out 0)|(go_at_call 95;(with_reducible refine (Qcn.calls a1 0 4 true _ A10.out).mono ?_);rintro e w' ⟨rfl,⟨nd,rfl⟩⟩)|(refine gA (some 22) Try.func109 #[.agg #[.slice A0_0 l0_0.length c0_0], .slice none 0 0, .int .i64 a1] ?_;(refine (Qbl.calls k _ _ l0_0 _ _ ([] :List Int) a1 t707 _ ?side1 HC0_0.out ?side3 ?side4 A12.out).mono ?_);(case side1=>repeat (first|exact (Kd.C_below HR0_0.out (vB HB))|(with_reducible refine Kd.C_alloc ?_ _)|(with_reducible refine Kd.C_drewN ?_ _)|(with_reducible refine Kd.C_drew ?_)));(case side3=>exact Kd.C_nil _ _);(case side4=>exact Nat.le_refl _);rintro e w17 ⟨v708,rfl,ho0,hb⟩;refine ⟨_,rfl,?_⟩;have HO709:=Zk (Kd.N_lower (Kd.N_mono (ok':=fun k_=>(w.heap.size≤k_)∧k_≠gb704) ho0 (fun k_ hk_=>⟨(Nat.le_trans (Qh (vB HB)) hk_),(Kd.freshB (uK BK704) k_ hk_)⟩)) (Qh (vB HB)));replace BK704:=Zk (Qd (uK BK704) hb);replace HB:=Zk (Qc (vB HB) hb);(try clear hb ho0)))
    go_ret2
    exact ⟨_,by first|rfl|(simp [Qe,Qf] <;>rfl)|(simp [*,Qe,Qf] <;>rfl),by (with_reducible repeat (first|apply Kd.N_alloc|apply Kd.N_drewN|apply Kd.N_drew));exact Kd.N_mono HO709.out (fun _ hk=>hk.1),(vB HB)⟩
   ·
    replace c11:=Bool.eq_false_iff.mpr c11;subst c11;rw [if_neg (show ¬ (false=true) by decide)] at H;simp only [Option.some.injEq,Prod.mk.injEq] at H;obtain ⟨rfl,rfl⟩:=H;go_enter Try.func51,Try.ntmps51;go_wp2_with (first|((with_reducible refine Qb2 (N:=2) rfl ?_);(try (refine Qcx (by rfl) ?_;dsimp only));refine bE (N:=2) (cs:= #[.slice A0_0 l0_0.length c0_0]) (t:=26) ?_;intro gb704 hg w18 hbox hb;have BK704:=Zk (hbox);have GW704:=Zk ((by rw [hg];exact (Qh (uB HB)):w.heap.size≤gb704));have GE704:=GW704;replace HB:=Zk (Qc (uB HB) hb);clear hb hbox hg;have hcz19_0:=bC BK704;have hfz19_0:=Qg BK704.out 0)|(refine gA (some 7) Try.func88 #[.agg #[.slice A0_0 l0_0.length c0_0]] ?_;(with_reducible refine (Qx.calls k _ _ l0_0 true _ (uD HR0_0 HB) HC0_0.out A3.out).mono ?_);rintro e w20 ⟨rfl,hb⟩;refine ⟨_,rfl,?_⟩;replace BK704:=Zk (Qd (uK BK704) hb);replace HB:=Zk (Qc (vB HB) hb);(try clear hb);have hcz21_0:=bC BK704;have hfz21_0:=Qg BK704.out 0)|(go_at_call 95;(with_reducible refine (Qcn.calls a1 0 4 false _ A10.out).mono ?_);rintro e w' ⟨rfl,⟨nd,rfl⟩⟩))
    go_ret2
    exact ⟨_,by first|rfl|(simp [Qe,Qf] <;>rfl)|(simp [*,Qe,Qf] <;>rfl),by first|exact Kd.S_nil _ _ _ _ _|exact Kd.N_nil _ _ _ _ _|exact Kd.V_nil _ _ _ _ _|exact Kd.Q_nil _ _ _ _ _|exact Kd.R_nil _ _ _ _ _,(vB HB)⟩
 ·
  replace c4:=Bool.eq_false_iff.mpr c4;subst c4;rw [if_neg (show ¬ (false=true) by decide)] at H;simp only [Option.some.injEq,Prod.mk.injEq] at H;obtain ⟨rfl,rfl⟩:=H;go_enter Try.func51,Try.ntmps51;go_wp2_with (first|((with_reducible refine Qb2 (N:=2) rfl ?_);(try (refine Qcx (by rfl) ?_;dsimp only));refine bE (N:=2) (cs:= #[.slice A0_0 l0_0.length c0_0]) (t:=26) ?_;intro gb704 hg w22 hbox hb;have BK704:=Zk (hbox);have GW704:=Zk ((by rw [hg];exact (Qh (uB HB)):w.heap.size≤gb704));have GE704:=GW704;replace HB:=Zk (Qc (uB HB) hb);clear hb hbox hg;have hcz23_0:=bC BK704;have hfz23_0:=Qg BK704.out 0)|(refine gA (some 7) Try.func88 #[.agg #[.slice A0_0 l0_0.length c0_0]] ?_;(with_reducible refine (Qx.calls k _ _ l0_0 false _ (uD HR0_0 HB) HC0_0.out A3.out).mono ?_);rintro e w24 ⟨rfl,hb⟩;refine ⟨_,rfl,?_⟩;replace BK704:=Zk (Qd (uK BK704) hb);replace HB:=Zk (Qc (vB HB) hb);(try clear hb)))
  go_ret2
  exact ⟨_,by first|rfl|(simp [Qe,Qf] <;>rfl)|(simp [*,Qe,Qf] <;>rfl),by first|exact Kd.S_nil _ _ _ _ _|exact Kd.N_nil _ _ _ _ _|exact Kd.V_nil _ _ _ _ _|exact Kd.Q_nil _ _ _ _ _|exact Kd.R_nil _ _ _ _ _,(vB HB)⟩
end Go.Proofs.Ytkgngggppcmpfaa.L
end
section
namespace Go.Proofs.Ytkgngggppcmpfaa.L
open Go.RowKit Go.Proofs.YtkgngggppcmpfaaW.PrintWords Go.Proofs.YtkgngggppcmpfaaW.PrintLast Go.Proofs.YtkgngggppcmpfaaW.PrintMore
attribute [local go_sem] Qbd Qbf Qbn Qbo Q3 Q4 Qbe Qbg
set_option linter.unusedVariables false
set_option linter.unusedSimpArgs false
class Fn1 where
 p:Int→Option Bool
def Qge.f [Fn1] (a0:Int):Option Bool:=Fn1.p a0
end Go.Proofs.Ytkgngggppcmpfaa.L
end
section
namespace Go.Proofs.Ytkgngggppcmpfaa.L
open Go.RowKit Go.Proofs.YtkgngggppcmpfaaW.PrintWords Go.Proofs.YtkgngggppcmpfaaW.PrintLast Go.Proofs.YtkgngggppcmpfaaW.PrintMore Go.Proofs.Ytkgngggppcmpfaa.X
attribute [local go_sem] Qbd Qbf Qbn Qbo Q3 Q4 Qbe Qbg
set_option linter.unusedVariables false
variable [Fn1]
set_option linter.unusedSimpArgs false
def Qbt.l0:Nat→List Int→Int→Int→Option (List Int)
 |0,_,_,_=>none
 |k+1,x5,x10,x11=>if x11<x10 then ((Qge.f x11).bind fun t715=>(if t715=true then (if x5.length<17592186044416 then (Qbt.l0 k (x5++ [x11]) x10 (wrap64 (x11+1))) else (none)) else (Qbt.l0 k x5 x10 (wrap64 (x11+1))))) else (some x5)
def Qbt.f (k:Nat) (l0_0:List Int) (a1:Int):Option (List Int):=(Qc0.f l0_0).bind fun t714=>(Qbt.l0 k (([] :List Int)) (wrap64 (t714+1)) 0)
theorem Qbt.mono_l: ∀ k,(∀ y0 y1 y2,LeO (Qbt.l0 k y0 y1 y2) (Qbt.l0 (k+1) y0 y1 y2))
 |0=>fun _ _ _ r h=>by simp [Qbt.l0] at h
 |k+1=>by
  have ih0:=Qbt.mono_l k
  ·
   intro y0 y1 y2;unfold Qbt.l0
   repeat' first
   |(with_reducible exact ih0 _ _ _)
   |(with_reducible exact LeO.refl _)
   |(with_reducible exact LeO.none _)
   |(with_reducible refine LeO.ite ?_ ?_)
   |(with_reducible refine LeO.bind ?_ (fun _=> ?_))
   |exact ih0 _ _ _
   |exact LeO.none _
   |refine LeO.ite ?_ ?_
   |refine LeO.bind ?_ (fun _=> ?_)
theorem Qbt.mono: ∀ a0 a1 k,LeO (Qbt.f k a0 a1) (Qbt.f (k+1) a0 a1):=by
 intro a0 a1 k;have ih0:=Qbt.mono_l k;unfold Qbt.f
 repeat' first
  |(with_reducible exact ih0 _ _ _)
  |(with_reducible exact LeO.refl _)
  |(with_reducible exact LeO.none _)
  |(with_reducible refine LeO.ite ?_ ?_)
  |(with_reducible refine LeO.bind ?_ (fun _=> ?_))
  |exact ih0 _ _ _
  |exact LeO.none _
  |refine LeO.ite ?_ ?_
  |refine LeO.bind ?_ (fun _=> ?_)
set_option maxHeartbeats 8000000 in
set_option maxRecDepth 100000 in
open Go.Proofs.Ytkgngggppcmpfaa.X in
theorem Qbt.calls (gF:Nat) (lbF:Array Value) (eg: ∀ args w,(callFunc gF args).run Try.prog w= .ok (.enter gF args) w) (k:Nat) (A0_0:Option Addr) (c0_0:Nat) (l0_0:List Int) (a1:Int) (r:List Int) (w:World) (hr0_0:Kd.C (Kd.int .i64) w A0_0 l0_0.length l0_0) (hc0_0:l0_0.length≤c0_0) (hpF: ∀ x0_ b,Qge.f x0_=some b→Fv Try.prog gF lbF #[.int .i64 x0_] (.bool b) w) (h:Qbt.f k l0_0 a1=some r):
 Calls Try.prog 138 #[.agg #[.slice A0_0 l0_0.length c0_0], .func (.func gF) #[] lbF] w fun e w'=> ∃ v0_:Value,e= .returned (v0_)∧Kd.R (Kd.int .i64) 3 w' w.heap.size (fun _=>True) v0_ r∧Below w.heap.size w w':=by
 have HP:=Zk hpF;clear hpF;have hu26:=Try.underlying26;have HR0_0:=Zk hr0_0;have HC0_0:=Zk hc0_0;clear hr0_0 hc0_0;have HB:=Zk (Below.refl w.heap.size w);have H:((Qc0.f l0_0).bind fun t714=>(Qbt.l0 k (([] :List Int)) (wrap64 (t714+1)) 0))=some r:=h;clear h;obtain ⟨y711,hy711⟩: ∃ y_:List Int,y_=(([] :List Int)):=⟨_,rfl⟩
 replace H:((Qc0.f l0_0).bind fun t714=>(Qbt.l0 k y711 (wrap64 (t714+1)) 0))=some r:=by first|(rw [hy711];with_reducible exact H)|(have H2_:=(Option.bind_some _ _).symm.trans H;rw [hy711];with_reducible exact H2_)|(have H2_:=(Option.bind_some _ _).symm.trans H;with_reducible exact H2_)|with_reducible exact H|(rw [hy711];exact H)|exact H
 have Ny711:=Zk hy711;clear hy711;obtain ⟨t714,A3,H⟩:=bs H;(try dsimp only at H)
 have H':=Zk H;clear H;go_enter Try.func138,Try.ntmps138;go_wp2_with (first|(refine bE (N:=2) (cs:= #[.slice A0_0 l0_0.length c0_0]) (t:=26) ?_;intro gb710 hg w4 hbox hb;have BK710:=Zk (hbox);have GW710:=Zk ((by rw [hg];exact (Qh (uB HB)):w.heap.size≤gb710));have GE710:=GW710;replace HB:=Zk (Qc (uB HB) hb);clear hb hbox hg)|((with_reducible refine Qb2 (N:=7) rfl ?_);refine Kd.R_lit (Kd.int .i64) _ 3 ?hg (N:=7) ?hd (xs:=([] :List Int)) (inner:= []) (ok:=fun _=>True) (okp:=fun _=>True) ?hr ?hp (fun _ hk=>hk) trivial (Below.refl _ _) (Nat.le_refl _) (by simp) ?_;(case hd=>rfl);(case hg=>rfl);(case hr=>first|(go_simp;done)|(go_simp;rfl));(case hp=>exact (Reps.none _ _));intro v712 w5 ho6 hb hg_ hnew_;clear hg_ hnew_;(first|rw [←Ny711.out] at ho6|(simp only [Int.reduceToNat] at ho6;rw [←Ny711.out] at ho6));have HO713:=Zk (Kd.R_lower ho6 (Qh (vB HB)));replace BK710:=Zk (Qd (uK BK710) hb);replace HB:=Zk (Qc (vB HB) hb);clear hb ho6;have hcz7_0:=bC BK710;have hfz7_0:=Qg BK710.out 0)|(refine gA (some 9) Try.func123 #[.agg #[.slice A0_0 l0_0.length c0_0]] ?_;(with_reducible refine (Qc0.calls _ _ l0_0 t714 _ (uD HR0_0 HB) HC0_0.out A3.out).mono ?_);rintro e w8 ⟨rfl,hb⟩;refine ⟨_,rfl,?_⟩;replace HO713:=Zk (Kd.R_below (uR HO713) hb);replace BK710:=Zk (Qd (uK BK710) hb);replace HB:=Zk (Qc (vB HB) hb);(try clear hb)))
 go_loopg [5,11] k (fun kq v5 v11 w'=> ∃ (x5_1:List Int) (x11_1:Int),v11= .int .i64 x11_1∧Z0 (Qbt.l0 kq x5_1 (wrap64 (t714+1)) x11_1=some r)∧Z0 (kq≤k)∧Z0 (Kd.R (Kd.int .i64) 3 w' w.heap.size (fun _=>True) v5 x5_1)∧Z0 (w'.heap[gb710]? =some (.cells #[(.slice A0_0 l0_0.length c0_0)] 26 (0,0)))∧Z0 (Below w.heap.size w w'))
 case atStart=>exact ⟨(y711),(0),(by first|rfl|(simp;done)|(simp [*];done)),H',⟨Nat.le_refl _⟩,⟨uR HO713⟩,⟨uK BK710⟩,⟨(vB HB)⟩⟩
 case round=>
  clear H'
  try clear hcz7_0 hfz7_0
  obtain ⟨x5_1,x11_1,rfl,HA,HK1,HO_5,BK710,HB⟩:=hrel;cases gk with
  |zero=>exact absurd HA.out (by simp [Qbt.l0])
  |succ k1=>
   have H:=HA.out;clear HA;simp only [Qbt.l0] at H
   by_cases c9:x11_1<(wrap64 (t714+1))
   ·
    rw [if_pos c9] at H;have c9b0:=decide_eq_true c9;clear c9;obtain ⟨t715,A10,H⟩:=bs H;(try dsimp only at H)
    by_cases c11:t715=true
    ·
     subst c11;rw [if_pos rfl] at H
     by_cases c12:x5_1.length<17592186044416
     ·
      rw [if_pos c12] at H;have LMc12:=Zk c12;clear c12;obtain ⟨y716,hy716⟩: ∃ y_:List Int,y_=(x5_1++ [x11_1]):=⟨_,rfl⟩
      replace H:(Qbt.l0 k1 y716 (wrap64 (t714+1)) (wrap64 (x11_1+1)))=some r:=by first|(rw [hy716];with_reducible exact H)|(have H2_:=(Option.bind_some _ _).symm.trans H;rw [hy716];with_reducible exact H2_)|(have H2_:=(Option.bind_some _ _).symm.trans H;with_reducible exact H2_)|with_reducible exact H|(rw [hy716];exact H)|exact H
      have Ny716:=Zk hy716;clear hy716;have H':=Zk H;clear H;go_wp2_with (first|(go_at_fn gF;(with_reducible refine (Fv.calls (HP.out _ _ A10.out) (vB HB)).mono ?_);rintro e w13 ⟨rfl,hb⟩;replace HO_5:=Zk (Kd.R_below (uR HO_5) hb);replace BK710:=Zk (Qd (uK BK710) hb);replace HB:=Zk (Qc (vB HB) hb);(try clear hb))|((with_reducible refine Qcl (b:= .append) (xs:= #[.tmp 17, .tmp 19]) rfl ?_);at_builtin;refine Kd.R_append (Kd.int .i64) (w0:=w) w.heap.size rfl (.tmp 17) (.tmp 19) 24 3 (.int .i64 0) 8 rfl Try.underlying24 Qed rfl (by decide) (by omega) u5 x5_1 x11_1 [.int .i64 x11_1] (fun _=>True) (fun _=>False) rfl rfl ?aP (fun _ hk=>hk.elim) ?aF ?aO ?aB ?aS ?aL ?_;(case aP=>exact rfl);(case aB=>exact (vB HB));(case aF=>exact (fun _ _=>trivial));(case aO=>exact (uR HO_5));(case aS=>exact (Qh (vB HB)));(case aL=>have:=LMc12.out;omega);intro v717 w14 ho hb hg hat;rw [←Ny716.out] at ho;replace BK710:=Zk (Qb8 (uK BK710) hg (Kd.R_ne HO_5.out BK710.out (by decide)));replace HB:=Zk (hb);have HO718:=Zk (ho);clear HO_5;clear ho hb hg hat));go_roundg k1
      case measure=>have:=HK1.out;omega
      case rel=>exact ⟨(y716),(wrap64 (x11_1+1)),(by first|rfl|(simp;done)|(simp [*];done)),H',⟨by have:=HK1.out;omega⟩,⟨uR HO718⟩,⟨uK BK710⟩,⟨(vB HB)⟩⟩
     ·
      rw [if_neg c12] at H;exact absurd H (by simp)
    ·
     replace c11:=Bool.eq_false_iff.mpr c11;subst c11;rw [if_neg (show ¬ (false=true) by decide)] at H;have H':=Zk H;clear H;go_wp2_with (first|(go_at_fn gF;(with_reducible refine (Fv.calls (HP.out _ _ A10.out) (vB HB)).mono ?_);rintro e w15 ⟨rfl,hb⟩;replace HO_5:=Zk (Kd.R_below (uR HO_5) hb);replace BK710:=Zk (Qd (uK BK710) hb);replace HB:=Zk (Qc (vB HB) hb);(try clear hb)));go_roundg k1
     case measure=>have:=HK1.out;omega
     case rel=>exact ⟨(x5_1),(wrap64 (x11_1+1)),(by first|rfl|(simp;done)|(simp [*];done)),H',⟨by have:=HK1.out;omega⟩,⟨uR HO_5⟩,⟨uK BK710⟩,⟨(vB HB)⟩⟩
   ·
    rw [if_neg c9] at H;have c9b0:=decide_eq_false c9;clear c9;obtain rfl:=Option.some.inj H;go_wp2
    go_ret
    exact ⟨_,by first|rfl|(simp [Qe,Qf] <;>rfl)|(simp [*,Qe,Qf] <;>rfl),uR HO_5,(vB HB)⟩
end Go.Proofs.Ytkgngggppcmpfaa.L
end
section
namespace Go.Proofs.Ytkgngggppcmpfaa.L
open Go.RowKit Go.Proofs.YtkgngggppcmpfaaW.PrintWords Go.Proofs.YtkgngggppcmpfaaW.PrintLast Go.Proofs.YtkgngggppcmpfaaW.PrintMore
attribute [local go_sem] Qbd Qbf Qbn Qbo Q3 Q4 Qbe Qbg
set_option linter.unusedVariables false
set_option linter.unusedSimpArgs false
@[reducible] def Qb0.inst (k : Nat) (l0 : List Int) : Fn1 := ⟨fun s => (Q9.f k l0 s).map (· == s)⟩
def Qb0.f (k:Nat) (l0_0:List Int):Option (List Int):= @Qbt.f (Qb0.inst k l0_0) k l0_0 0
theorem Qb0.mono_i (i i':Fn1) (hi: ∀ s,LeO (i.p s) (i'.p s)): ∀ k y0 y1 y2,LeO (@Qbt.l0 i k y0 y1 y2) (@Qbt.l0 i' k y0 y1 y2)
 |0,_,_,_=>fun r h=>by cases h
 |k+1,y0,y1,y2=>by
  rw [@Qbt.l0.eq_2 i,@Qbt.l0.eq_2 i'];exact LeO.ite (LeO.bind (hi _) (fun t=>LeO.ite (LeO.ite (Qb0.mono_i i i' hi k _ _ _) (LeO.refl _)) (Qb0.mono_i i i' hi k _ _ _))) (LeO.refl _)
theorem Qb0.mono: ∀ a0 k,LeO (Qb0.f k a0) (Qb0.f (k+1) a0):=by
 intro l0 k;refine LeO.trans (@Qbt.mono (Qb0.inst k l0) _ _ k) ?_;unfold Qbt.f;refine LeO.bind (LeO.refl _) (fun t=>Qb0.mono_i _ _ (fun s r h=> ?_) _ _ _ _);obtain ⟨v,hv,e⟩:=Option.map_eq_some_iff.mp h;exact Option.map_eq_some_iff.mpr ⟨v,Q9.mono _ _ _ _ hv,e⟩
open Go.Proofs.Ytkgngggppcmpfaa.X in
set_option maxHeartbeats 800000 in
set_option maxRecDepth 100000 in
theorem Qb0.lit (k:Nat) (A0:Option Addr) (c0:Nat) (l0:List Int) (s:Int) (t:Bool) (B:Nat) (w:World) (hr0:Kd.C (Kd.int .i64) w A0 l0.length l0) (hc0:l0.length≤c0) (hB:B<w.heap.size) (hc:w.cell? ⟨B,0,none⟩=some (.slice A0 l0.length c0)) (h:(Qb0.inst k l0).p s=some t):
 Fv Try.prog 139 #[.pointer (some ⟨B,0,none⟩)] #[.int .i64 s] (.bool t) w:=by
 intro W hb;have hc':W.cell? ⟨B,0,none⟩=some (.slice A0 l0.length c0):=(hb.cell (p:=⟨B,0,none⟩) hB).trans hc;obtain ⟨v,hv,rfl⟩:=Option.map_eq_some_iff.mp h;have HV:=Zk hv;have HR:=Zk (Kd.C_below hr0 hb);have HC:=Zk hc0;clear h hv hr0 hb hc hc0;have hu:=Try.underlying26;go_enter Try.func139,Try.ntmps139;go_wp2_with (go_at_call 125;(with_reducible refine (Q9.calls k _ _ l0 s v _ HR.out HC.out HV.out).mono ?_);rintro e w1 ⟨rfl,hb⟩)
 go_ret
 exact ⟨rfl,hb⟩
open Go.Proofs.Ytkgngggppcmpfaa.X in
set_option maxHeartbeats 800000 in
set_option maxRecDepth 100000 in
theorem Qb0.calls (k:Nat) (A0_0:Option Addr) (c0_0:Nat) (l0_0:List Int) (r:List Int) (w:World) (hr0_0:Kd.C (Kd.int .i64) w A0_0 l0_0.length l0_0) (hc0_0:l0_0.length≤c0_0) (h:Qb0.f k l0_0=some r):
 Calls Try.prog 132 #[.agg #[.slice A0_0 l0_0.length c0_0]] w fun e w'=> ∃ v0_:Value,e= .returned (v0_)∧Kd.R (Kd.int .i64) 3 w' w.heap.size (fun _=>True) v0_ r∧Below w.heap.size w w':=by
 unfold Qb0.f at h;have HF:=Zk h;have HR:=Zk hr0_0;have HC:=Zk hc0_0;clear h hr0_0 hc0_0;have hu:=Try.underlying26;go_enter Try.func132,Try.ntmps132;go_wp2_with fail;have B0:=Zk (Qq (Below.refl w.heap.size w) (.cells #[.slice A0_0 l0_0.length c0_0] 26));refine (@Qbt.calls (Qb0.inst k l0_0) 139 #[.pointer (some ⟨w.heap.size,0,none⟩)] (Qiw Try.func139 (by kernel_rfl) rfl) k _ _ l0_0 0 r _ (Kd.C_below HR.out B0.out) HC.out (fun s b hb=>Qb0.lit k A0_0 c0_0 l0_0 s b w.heap.size _ (Kd.C_below HR.out B0.out) HC.out (by simp) (by simp) hb) HF.out).mono ?_;rintro e w2 ⟨v0,rfl,hR,hb⟩;have hR2:=Kd.R_lower hR (show w.heap.size≤_ by simp);have B2:=Zk (below_to B0.out hb);have HO:=Zk hR2;clear hR hR2 hb;go_wp2
 go_ret
 exact ⟨_,rfl,HO.out,B2.out⟩
def Qb.at:List (Int × Int)→Int→Int
 | [],_=>0
 |p::l,k=>if k=p.1 then p.2 else Qb.at l k
def Qb.ok (tt_ from_:Int):Bool:=decide (Go.bits .andNot .i64 from_ tt_=0)
def Qb.vis (c:Int→Bool) (left:Lit→Bool):List (Int × Int)→Int
 | [] =>0
 |p::l=>(if c p.1 && !left (.int .i64 p.1) then p.2 else 0)+Qb.vis c left l
def Qb.met (c:Int→Bool) (left:Lit→Bool):List (Int × Int)→Bool
 | [] =>false
 |p::l=>(c p.1 && !left (.int .i64 p.1))||Qb.met c left l
def Qb.cur (tt_:Int) (left:Lit→Bool) (rows nx:List (Int × Int)):List (Int × Int):=
 if Qb.met (Qb.ok tt_) left rows=true then (tt_,wrap64 (Qb.vis (Qb.ok tt_) left rows))::nx else nx
def Qb.step (rows:List (Int × Int)):List Int→List (Int × Int)→List (Int × Int)
 | [],nx=>nx
 |tt_::l,nx=>Qb.step rows l (Qb.cur tt_ (fun _=>false) rows nx)
def Qb.iter (ids:List Int):Nat→List (Int × Int)→List (Int × Int)
 |0,rows=>rows
 |n+1,rows=>Qb.iter ids n (Qb.step rows ids [])
def Qb.tot (rows:List (Int × Int)):Int:=wrap64 (Qb.vis (fun _=>true) (fun _=>false) rows)
def Qb.nd:List Int→Bool
 | [] =>true
 |x::l=> !l.contains x && Qb.nd l
def Qb.f (k:Nat) (l0_0:List Int) (a1:Int):Option Int:=
 (Qb0.f k l0_0).bind fun ids=>if ids.length≤1000000∧(ids.all fun d=>(Lit.int .i64 d).wf)=true∧Qb.nd ids=true∧0≤a1∧a1≤1000000 then some (Qb.tot (Qb.iter ids a1.toNat [(0,1)])) else none
theorem Qb.mono: ∀ a0 a1 k,LeO (Qb.f k a0 a1) (Qb.f (k+1) a0 a1):=fun l0 a1 k=>LeO.bind (Qb0.mono _ _) fun ids=>LeO.refl _
def Qb.keys (rows:List (Int × Int)):List Int:=rows.map (·.1)
theorem Qb.nd_iff: ∀ l:List Int,Qb.nd l=true ↔ l.Nodup
 | [] =>by simp [Qb.nd]
 |x::l=>by simp [Qb.nd,Qb.nd_iff l]
theorem Qb.same (x y:Int):(Lit.int .i64 x).sameKey (.int .i64 y)=decide (x=y):=by simp [Lit.sameKey]
theorem Qb.vis_out (c:Int→Bool) (left:Lit→Bool) (x:Int): ∀ rows:List (Int × Int),x ∉ rows.map (·.1)→
 Qb.vis c (fun z=>left z && !z.sameKey (.int .i64 x)) rows=Qb.vis c left rows∧Qb.met c (fun z=>left z && !z.sameKey (.int .i64 x)) rows=Qb.met c left rows
 | [],_=>⟨rfl,rfl⟩
 |p::l,h=>by
  obtain ⟨i1,i2⟩:=Qb.vis_out c left x l (fun hm=>h (List.mem_cons_of_mem _ hm));have e:p.1≠x:=fun e=>h (by rw [←e];exact List.mem_cons_self)
  have el:(left (.int .i64 p.1) && !(Lit.int .i64 p.1).sameKey (.int .i64 x))=left (.int .i64 p.1):=by rw [Qb.same,decide_eq_false e];simp
  simp only [Qb.vis,Qb.met,i1,i2,el,and_self]
theorem Qb.vis_in (c:Int→Bool) (left:Lit→Bool) (x v:Int) (hl:left (.int .i64 x)=true): ∀ rows:List (Int × Int),(rows.map (·.1)).Nodup→x ∈ rows.map (·.1)→Qb.at rows x=v→
 Qb.vis c (fun z=>left z && !z.sameKey (.int .i64 x)) rows=Qb.vis c left rows+(if c x=true then v else 0)∧Qb.met c (fun z=>left z && !z.sameKey (.int .i64 x)) rows=(Qb.met c left rows||c x)
 | [],_,h,_=>by cases h
 |p::l,hn,hm,ha=>by
  rw [List.map_cons,List.nodup_cons] at hn
  by_cases e:p.1=x
  ·
   subst e;obtain ⟨i1,i2⟩:=Qb.vis_out c left p.1 l hn.1;unfold Qb.at at ha;rw [if_pos rfl] at ha;have el:(Lit.int .i64 p.1).sameKey (.int .i64 p.1)=true:=by rw [Qb.same,decide_eq_true rfl]
   simp only [Qb.vis,Qb.met,i1,i2,el,hl,←ha];refine ⟨?_,?_⟩
   ·
    cases c p.1<;>simp<;>omega
   ·
    cases c p.1<;>simp
  ·
   unfold Qb.at at ha;rw [if_neg (fun z=>e z.symm)] at ha;have hm2:x ∈ l.map (·.1):=by
    rw [List.map_cons,List.mem_cons] at hm;exact hm.resolve_left fun h=>e h.symm
   obtain ⟨i1,i2⟩:=Qb.vis_in c left x v hl l hn.2 hm2 ha;have el:(left (.int .i64 p.1) && !(Lit.int .i64 p.1).sameKey (.int .i64 x))=left (.int .i64 p.1):=by rw [Qb.same,decide_eq_false e];simp
   simp only [Qb.vis,Qb.met,i1,i2,el];refine ⟨?_,?_⟩
   ·
    omega
   ·
    rw [Bool.or_assoc]
def Qb.Rel (D:DataW Unit) (rows:List (Int × Int)):Prop:=
 (∀ y:Int,Go.Maps.has D (.int .i64 y)=(rows.map (·.1)).contains y)∧(∀ y:Int,D.atKey (.int .i64 y) (.lit (.int .i64 0))= .lit (.int .i64 (Qb.at rows y)))∧Go.Maps.size D=rows.length
theorem Qb.Rel.nil:Qb.Rel (.map []) [] :=⟨fun y=>rfl,fun y=>rfl,rfl⟩
theorem Qb.Rel.put {D:DataW Unit} {l l':List (Int × Int)} {x v:Int} (hD:Go.Maps.IsMap D) (ht:Go.Maps.Tidy D) (h:Qb.Rel D l)
 (he:l=l'∨ ∃ v',l=(x,v')::l') (hx:x ∉ l'.map (·.1)):Qb.Rel (D.put (.int .i64 x) (.lit (.int .i64 v))) ((x,v)::l'):=by
 obtain ⟨h1,h2,h3⟩:=h;refine ⟨fun y=> ?_,fun y=> ?_,?_⟩
 ·
  by_cases e:y=x
  ·
   subst e;rw [Go.Maps.has_put_same hD (show WideAt.IsKeyLit (.int .i64 y) from trivial)];simp
  ·
   rw [Go.Maps.has_put_other (fun he=>e (by injection he)),h1 y];rcases he with rfl|⟨v',rfl⟩<;>simp [e]
 ·
  unfold Qb.at
  by_cases e:y=x
  ·
   subst e;rw [Go.Maps.atKey_put_same hD (show WideAt.IsKeyLit (.int .i64 y) from trivial),if_pos rfl]
  ·
   rw [Go.Maps.atKey_put_other (fun he=>e (by injection he)),h2 y,if_neg e];rcases he with rfl|⟨v',rfl⟩
   ·
    rfl
   ·
    rw [Qb.at,if_neg e]
 ·
  rw [Go.Maps.size_put ht,h1 x,h3];rcases he with rfl|⟨v',rfl⟩
  ·
   rw [if_neg (by simpa using hx)];rfl
  ·
   rw [if_pos (by simp)];rfl
theorem Qb.cur_end {tt_:Int} {left:Lit→Bool} {rows nx:List (Int × Int)} (h: ∀ kl,left kl=false):Qb.cur tt_ left rows nx=Qb.cur tt_ (fun _=>false) rows nx:=by
 have e:left=fun _=>false:=funext h
 rw [e]
theorem Qb.vis_start (c:Int→Bool) {left:Lit→Bool} : ∀ {rows:List (Int × Int)},(∀ y ∈ rows.map (·.1),left (.int .i64 y)=true)→Qb.vis c left rows=0∧Qb.met c left rows=false
 | [],_=>⟨rfl,rfl⟩
 |p::l,h=>by
  obtain ⟨i1,i2⟩:=Qb.vis_start c (rows:=l) fun y hy=>h y (List.mem_cons_of_mem _ hy)
  simp [Qb.vis,Qb.met,i1,i2,h p.1 List.mem_cons_self]
theorem Qb.cur_start {tt_:Int} {left:Lit→Bool} {rows nx:List (Int × Int)} (h: ∀ y ∈ rows.map (·.1),left (.int .i64 y)=true):Qb.cur tt_ left rows nx=nx:=by
 unfold Qb.cur;rw [(Qb.vis_start _ h).2];rfl
theorem Qb.at_out: ∀ {l:List (Int × Int)} {x:Int},x ∉ l.map (·.1)→Qb.at l x=0
 | [],_,_=>rfl
 |p::l,x,h=>by
  rw [Qb.at,if_neg (fun e=>h (by rw [e];exact List.mem_cons_self)),Qb.at_out fun hm=>h (List.mem_cons_of_mem _ hm)]
theorem Qb.vis_none {c:Int→Bool} {left:Lit→Bool} : ∀ {rows:List (Int × Int)},Qb.met c left rows=false→Qb.vis c left rows=0
 | [],_=>rfl
 |p::l,h=>by
  rw [Qb.met,Bool.or_eq_false_iff] at h;rw [Qb.vis,Qb.vis_none h.2,if_neg (by rw [h.1];simp)];rfl
theorem Qb.at_cur {tt_:Int} {left:Lit→Bool} {rows nx:List (Int × Int)} (hx:tt_ ∉ nx.map (·.1)):Qb.at (Qb.cur tt_ left rows nx) tt_=wrap64 (Qb.vis (Qb.ok tt_) left rows):=by
 unfold Qb.cur
 split
 ·
  rw [Qb.at,if_pos rfl]
 ·
  rename_i h;rw [Qb.at_out hx,Qb.vis_none (by simpa using h)];(unfold wrap64;omega)
theorem Qb.wrap_add (a b:Int):wrap64 (wrap64 a+b)=wrap64 (a+b):=by unfold wrap64;omega
theorem Qb.cur_yes {tt_ x v:Int} {left:Lit→Bool} {rows nx:List (Int × Int)} (hl:left (.int .i64 x)=true) (hn:(rows.map (·.1)).Nodup) (hm:x ∈ rows.map (·.1)) (ha:Qb.at rows x=v) (hc:Qb.ok tt_ x=true):
 Qb.cur tt_ (fun z=>left z && !z.sameKey (.int .i64 x)) rows nx=(tt_,wrap64 (wrap64 (Qb.vis (Qb.ok tt_) left rows)+v))::nx:=by
 obtain ⟨i1,i2⟩:=Qb.vis_in (Qb.ok tt_) left x v hl rows hn hm ha;unfold Qb.cur;rw [i1,i2,hc,Bool.or_true,if_pos rfl,if_pos rfl,Qb.wrap_add]
theorem Qb.cur_no {tt_ x v:Int} {left:Lit→Bool} {rows nx:List (Int × Int)} (hl:left (.int .i64 x)=true) (hn:(rows.map (·.1)).Nodup) (hm:x ∈ rows.map (·.1)) (ha:Qb.at rows x=v) (hc:Qb.ok tt_ x=false):
 Qb.cur tt_ (fun z=>left z && !z.sameKey (.int .i64 x)) rows nx=Qb.cur tt_ left rows nx:=by
 obtain ⟨i1,i2⟩:=Qb.vis_in (Qb.ok tt_) left x v hl rows hn hm ha;unfold Qb.cur;rw [i1,i2,hc,Bool.or_false,if_neg (by simp: ¬ (false=true)),Int.add_zero]
theorem Qb.cur_split {tt_:Int} {left:Lit→Bool} {rows nx:List (Int × Int)} :Qb.cur tt_ left rows nx=nx∨ ∃ v',Qb.cur tt_ left rows nx=(tt_,v')::nx:=by
 unfold Qb.cur
 split
 ·
  exact .inr ⟨_,rfl⟩
 ·
  exact .inl rfl
theorem Qb.wf_wrap (a:Int):(Lit.int .i64 (wrap64 a)).wf=true:=by
 unfold Lit.wf wrap64;simp only [Bool.and_eq_true,decide_eq_true_eq];have e1:IntKind.i64.min= -9223372036854775808:=by decide
 have e2:IntKind.i64.max=9223372036854775807:=by decide
 rw [e1,e2];omega
theorem Qb.tight {P:Program} {kk:TypeId} {R:Value→Option (DataW Unit × List MemPlace)} {w:World} {b n:Nat} {D:DataW Unit} (h:w.ownsMap P kk R b n D):w.ownsMap P kk R b (Go.Maps.size D) D:=by
 obtain ⟨es,clock,hb,F,hs,rfl⟩:=h;exact ⟨es,clock,hb,F,by simp [Go.Maps.size,length_sorted],rfl⟩
theorem Qb.look {H:Type} {P:Program} (w:World) {ops:Array Oper} {rest:List Oper} {o:Oper} {a:Act} {Q:Exit→Act→World→Prop}
 (hg:o.guard=none) (m x:Operand) (t:TypeId) (hop:o.op=Op.lookup t m x false)
 (k e:TypeId) (K:Go.Maps.Keyed P k) (ht:P.underlying t=some (.map k e)) (he:P.underlying e=some (.int .i64)) (hz:(zeroValue e).run P w= .ok (.int .i64 0) w) (b n:Nat) (D:DataW H)
 (hm:a.eval m= .map (some b)) (hown:w.ownsMap P k (plainElem P e) b n D) (key:Value) (kl:Lit) (hx:a.eval x=key) (hkey:keyOf P k key=some kl) (r:Int) (hr:D.atKey kl (.lit (.int .i64 0))= .lit (.int .i64 r))
 (hK:wpList P ops Q rest (a.put o.dst (.int .i64 r)) w):
 wpList P ops Q (o::rest) a w:=by
 refine wpList_lookup_own_int w hg m x t hop k e .i64 K ht he hz b n D hm hown key kl hx hkey (fun c hc _=> ?_);rw [hr] at hc;injection hc with hc
 injection hc with _ hc
 subst hc;exact hK
theorem Qb.step_cons (rows:List (Int × Int)) (x:Int) (l:List Int) (nx:List (Int × Int)):Qb.step rows (x::l) nx=Qb.step rows l (Qb.cur x (fun _=>false) rows nx):=rfl
theorem Qb.cur_keys {t:Int} {left:Lit→Bool} {rows nx:List (Int × Int)} {l:List Int} (h: ∀ y ∈ nx.map (·.1),y ∈ l): ∀ y ∈ (Qb.cur t left rows nx).map (·.1),y ∈ l++ [t] :=by
 intro y hy;rcases Qb.cur_split (tt_:=t) (left:=left) (rows:=rows) (nx:=nx) with e|⟨v,e⟩
 ·
  rw [e] at hy;exact List.mem_append_left _ (h y hy)
 ·
  rw [e,List.map_cons,List.mem_cons] at hy;rcases hy with hy|hy
  ·
   rw [hy];simp
  ·
   exact List.mem_append_left _ (h y hy)
theorem Qb.cur_nodup {t:Int} {left:Lit→Bool} {rows nx:List (Int × Int)} (h:(nx.map (·.1)).Nodup) (ht:t ∉ nx.map (·.1)):((Qb.cur t left rows nx).map (·.1)).Nodup:=by
 rcases Qb.cur_split (tt_:=t) (left:=left) (rows:=rows) (nx:=nx) with e|⟨v,e⟩
 ·
  rw [e];exact h
 ·
  rw [e,List.map_cons,List.nodup_cons];exact ⟨ht,h⟩
theorem Qb.cur_len {t:Int} {left:Lit→Bool} {rows nx:List (Int × Int)} :(Qb.cur t left rows nx).length≤nx.length+1:=by
 rcases Qb.cur_split (tt_:=t) (left:=left) (rows:=rows) (nx:=nx) with e|⟨v,e⟩<;>rw [e] <;>simp
theorem Qb.fresh {ids:List Int} {j:Nat} (hj:j<ids.length) (hn:ids.Nodup):ids[j] ∉ ids.take j:=by
 intro h;obtain ⟨i,hi,e⟩:=List.mem_take_iff_getElem.mp h;have:=(List.getElem_inj hn).mp e;omega
theorem Qb.zeroE (w:World):(zeroValue 3).run Try.prog w= .ok (.int .i64 0) w:=by kernel_rfl
theorem Qb.law:Go.Maps.Keyed Try.prog 3:=Go.Maps.int_keyed Try.underlying3
open Go.Proofs.Ytkgngggppcmpfaa.X in
set_option maxHeartbeats 3200000 in
set_option maxRecDepth 100000 in
theorem Qb.calls (k:Nat) (A0_0:Option Addr) (c0_0:Nat) (l0_0:List Int) (a1:Int) (r:Int) (w:World) (hr0_0:Kd.C (Kd.int .i64) w A0_0 l0_0.length l0_0) (hc0_0:l0_0.length≤c0_0) (h:Qb.f k l0_0 a1=some r):
 Calls Try.prog 110 #[.agg #[.slice A0_0 l0_0.length c0_0], .int .i64 a1] w fun e w'=>e= .returned (.int .i64 r)∧Below w.heap.size w w':=by
 unfold Qb.f at h;have hn_:=Option.bind_eq_some_iff.mp h;clear h;obtain ⟨ids,hi,h⟩:=hn_
 split at h
 ·
  rename_i hc;have HI:=Zk hi;have HC2:=Zk hc;have HF:=Zk (Option.some.inj h);have HR:=Zk hr0_0;have HC:=Zk hc0_0;clear h hi hc hr0_0 hc0_0;have hu:=Try.underlying26;have hmm:= @run_makeMap Try.prog;go_enter Try.func110,Try.ntmps110;go_wp2_with fail;refine (Qb0.calls k _ _ l0_0 ids _ (Kd.C_alloc HR.out _) HC.out HI.out).mono ?_;rintro e w1 ⟨v0,rfl,hR,hb⟩;have B1:=Zk (below_to (Qq (Below.refl w.heap.size w) (.cells #[.slice A0_0 l0_0.length c0_0] 26)) hb);obtain ⟨A1,c1,rfl,hl1,hC1⟩:=Kd.R_reads hR;have C1:=Zk hC1;have M0:=World.ownsMap_made (H:=Unit) w1 Try.prog 3 (plainElem Try.prog 3);obtain ⟨w2,hup,hM2,hg2⟩:=M0.update Qb.law Try.underlying109 (by unfold maxLen;omega) (key:= .int .i64 0) (val:= .int .i64 1) (Go.Maps.keyOf_int_mk Try.underlying3 rfl) (plainElem_int Try.underlying3 rfl);have hM20:=M0;clear M0 hR hb hl1 hC1;have B2:=Zk (Qex (Qq (Below.refl w1.heap.size w1) (.map #[] 0)) (some w1.heap.size) (Nat.le_of_lt (by simp)) hg2 (fun k_ e=>by injection e with e;omega));have MW:=Zk hM2;have L0:=Zk (Qb.Rel.put (x:=0) (v:=1) hM20.isMap (hM20.tidy Qb.law) Qb.Rel.nil (.inl rfl) (by simp));clear hg2 hM20;go_wp2_with fail;obtain ⟨b0,hb0⟩: ∃ b0,b0=w1.heap.size:=⟨_,rfl⟩
  rw [←hb0] at MW ⊢;have GB:=Zk (show w1.heap.size≤b0 by omega);clear hb0 hup;obtain ⟨M,hM⟩: ∃ M:Nat,a1=(M:Int):=⟨a1.toNat,by have:=HC2.out.2.2.2.1;omega⟩
  subst hM;have HM:=Zk (show M≤1000000 by have:=HC2.out.2.2.2.2;omega);have HF2:=Zk (show Qb.tot (Qb.iter ids M [(0,1)])=r by have:=HF.out;rwa [Int.toNat_natCast] at this);have HN:=Zk ((Qb.nd_iff ids).mp HC2.out.2.2.1);clear HF
  go_loopw [6,20] (fun v6 v20 wr=> ∃ (q:Nat) (rows:List (Int × Int)) (b n:Nat) (D:DataW Unit),v6= .map (some b)∧v20= .int .i64 q∧q≤M∧Z0 (Qb.tot (Qb.iter ids (M - q) rows)=r)∧Z0 (wr.ownsMap Try.prog 3 (plainElem Try.prog 3) b n D)∧Z0 (Qb.Rel D rows)∧Z0 ((rows.map (·.1)).Nodup)∧Z0 (Below w1.heap.size w1 wr)∧Z0 (w1.heap.size≤b)) (fun _ v20 _=>M - (intOf v20).toNat)
  case atStart=>exact ⟨0,[(0,1)],b0,_,_,rfl,rfl,Nat.zero_le _,HF2,MW,L0,⟨by simp⟩,B2,GB⟩
  case round=>
   clear MW L0 B2 GB HF2;obtain ⟨q,rows,b,n,D,rfl,rfl,hq,HF,MW,HL,HK,HB,GB⟩:=hrel
   by_cases hlt:q<M
   ·
    have hf:=HF.out;have e2:wrap64 ((q:Int)+1)=((q+1:Nat):Int):=by have:=HM.out;unfold wrap64;omega
    rw [show M - q=(M - (q+1))+1 by omega,Qb.iter] at hf;have HF2:=Zk hf;clear hf HF;go_wp2_with fail;obtain ⟨b2,hb2⟩: ∃ b2,b2=wr.heap.size:=⟨_,rfl⟩
    have M2:=Zk (World.ownsMap_made (H:=Unit) wr Try.prog 3 (plainElem Try.prog 3));have MWa:=Zk (MW.out.alloc (.map #[] 0));have HBa:=Zk (Qq HB.out (.map #[] 0));have NE:=Zk (show b≠b2 by have:=MW.out.lt;omega);have GB2:=Zk (show w1.heap.size≤b2 by have:=HB.out.size;omega);rw [←hb2] at M2 ⊢;clear hb2 MW HB;generalize wr.alloc (.map #[] 0)=wa at M2 MWa HBa ⊢
    go_loopw [25] (fun v25 wi=> ∃ (j:Nat) (nx:List (Int × Int)) (n2:Nat) (D2:DataW Unit),v25= .int .i64 j∧j≤ids.length∧Z0 (Qb.step rows ids [] =Qb.step rows (ids.drop j) nx)∧Z0 (wi.ownsMap Try.prog 3 (plainElem Try.prog 3) b n D)∧Z0 (wi.ownsMap Try.prog 3 (plainElem Try.prog 3) b2 n2 D2)∧Z0 (Qb.Rel D2 nx)∧Z0 ((nx.map (·.1)).Nodup)∧Z0 (∀ y ∈ nx.map (·.1),y ∈ ids.take j)∧Z0 (nx.length≤j)∧Z0 (Below w1.heap.size w1 wi)) (fun v25 _=>ids.length - (intOf v25).toNat)
    case atStart=>exact ⟨0,[],_,_,rfl,Nat.zero_le _,⟨by rw [List.drop_zero]⟩,MWa,M2,⟨Qb.Rel.nil⟩,⟨by simp⟩,⟨fun y hy=>by cases hy⟩,⟨Nat.le_refl _⟩,HBa⟩
    case round=>
     clear MWa M2 HBa;obtain ⟨j,nx,n2,D2,rfl,hj,HS,MW,M2,HL2,HK2,HT2,HN2,HB⟩:=hrel
     by_cases hjl:j<ids.length
     ·
      have hs:=HS.out;rw [List.drop_eq_getElem_cons hjl,Qb.step_cons] at hs;obtain ⟨ad,e1,hx0⟩:=Kd.at_int (Kd.C_below C1.out HB.out) (j:Int) (by omega) (by omega);rw [Int.toNat_natCast] at hx0;cases e1;have hx:=hx0;rw [show rd ids (j:Int)=ids[j] by simp [rd,List.getD_eq_getElem?_getD,hjl]] at hx;have WFd:=Zk (show (Lit.int .i64 ids[j]).wf=true from List.all_eq_true.mp HC2.out.2.1 _ (List.getElem_mem hjl));have FR:=Zk (show ids[j] ∉ nx.map (·.1) from fun h=>Qb.fresh hjl HN.out (HT2.out _ h));have TK:=Zk (show ids.take (j+1)=ids.take j++ [ids[j]] from List.take_succ_eq_append_getElem hjl);obtain ⟨d,hde⟩: ∃ d,d=ids[j] :=⟨_,rfl⟩
      rw [←hde] at hx hs WFd FR TK;have HS2:=Zk hs;have p4:0≤((j:Nat):Int):=by omega
      have q4:((j:Nat):Int)<(ids.length:Int):=by omega
      have hj1:j+1≤ids.length:=hjl;have e3:wrap64 ((j:Int)+1)=((j+1:Nat):Int):=by have:=HC2.out.1;unfold wrap64;omega
      clear hde hx0 hs HS;go_wp2_with (first|(at_range;refine wpList_range_own _ rfl _ 109 rfl 3 3 Qb.law Try.underlying109 _ b n D rfl MW.out ?_;intro w0 hrg0 hg0 hs0)|go_in)
      go_frame
      obtain ⟨r0,hr0⟩: ∃ r0,r0=wr.heap.size:=⟨_,rfl⟩
      rw [←hr0] at hrg0 ⊢;have HR0:=Zk hrg0;have M20:=Zk (M2.out.kept hg0 (by simp));have HB0:=Zk (Qex HB.out none HB.out.size hg0 (fun k_ e=>by cases e));have NR:=Zk (show r0≠b2 by have:=M2.out.lt;omega);have GR:=Zk (show w1.heap.size≤r0 by have:=HB.out.size;omega);have LC0:=Zk (show Qb.Rel D2 (Qb.cur d (Go.Maps.has D) rows nx) by rw [Qb.cur_start (fun y hy=>by rw [HL.out.1 y];simpa using hy)];exact HL2.out);clear hr0 hrg0 hg0 hs0 MW M2 HB
      go_loopw [10] (fun _ wk=> ∃ (left:Lit→Bool) (cnt n3:Nat) (D3:DataW Unit),Z0 (wk.ranges Try.prog 3 (plainElem Try.prog 3) b r0 n D left cnt)∧Z0 (wk.ownsMap Try.prog 3 (plainElem Try.prog 3) b2 n3 D3)∧Z0 (Qb.Rel D3 (Qb.cur d left rows nx))∧Z0 (Below w1.heap.size w1 wk)) (fun _ wk=>wk.rangeLeft b r0)
      case atStart=>exact ⟨_,_,_,_,HR0,M20,LC0,HB0⟩
      case round=>
       clear HR0 M20 LC0 HB0;obtain ⟨left,cnt,n3,D3,HRG,M3,HL3,HB⟩:=hrel;have hrg:=HRG.out;go_wp2_with (first|(at_next;refine wpList_next_ranges_ii _ rfl _ rfl 3 3 .i64 .i64 Qb.law Try.underlying3 Try.underlying3 b r0 n _ _ _ rfl hrg ?_ ?_)|go_in)
       ·
        intro _ hl0;have HLE:=Zk (show Qb.Rel D3 (Qb.cur d (fun _=>false) rows nx) by rw [←Qb.cur_end hl0];exact HL3.out);have MWe:=Zk hrg.owns;clear hl0 hrg HRG HL3;go_wp2;go_roundw
        case rel=>exact ⟨j+1,Qb.cur d (fun _=>false) rows nx,n3,D3,by first|rw [e3] |rfl,hj1,HS2,MWe,M3,HLE,⟨Qb.cur_nodup HK2.out FR.out⟩,⟨by rw [TK.out];exact Qb.cur_keys HT2.out⟩,⟨by have h1:=HN2.out;have h2:=Qb.cur_len (t:=d) (left:=fun _=>false) (rows:=rows) (nx:=nx);omega⟩,HB⟩
        case measure=>(try simp only [e3]);exact (Nat.sub_lt_sub_left hjl (Nat.lt_succ_self j):ids.length - (j+1)<ids.length - j)
       ·
        intro x c wz cnt1 hwx hwc hlx hat hrg1 hltc hg1 hs1 hen;have hmem:x ∈ rows.map (·.1):=by
         have h1:=HL.out.1 x;rw [Go.Maps.has_true_of_atKey hat] at h1
         simpa using h1.symm
        have hval:Qb.at rows x=c:=by
         have h1:=(HL.out.2.1 x).symm.trans (hat _);injection h1 with h1
         injection h1
        have M4:=Zk (M3.out.kept hg1 (fun e=>NR.out (by injection e with e;exact e.symm)));have B4:=Zk (Qex HB.out (some r0) HB.out.size hg1 (fun k_ e=>by injection e with e;rw [←e];exact GR.out));have HRG1:=Zk hrg1;have LT1:=Zk (show wz.rangeLeft b r0<wr.rangeLeft b r0 by rw [hrg1.left_eq,hrg.left_eq];exact hltc)
        by_cases hc:Qb.ok d x=true
        ·
         have HL4:=Zk (Qb.cur_yes (nx:=nx) hlx HK.out hmem hval hc);obtain ⟨V,hV⟩: ∃ V,V=wrap64 (Qb.vis (Qb.ok d) left rows):=⟨_,rfl⟩
         have HLV:=Zk (show D3.atKey (.int .i64 d) (.lit (.int .i64 0))= .lit (.int .i64 V) by rw [HL3.out.2.1 d,Qb.at_cur FR.out,hV]);rw [←hV] at HL4;have hcb:(Go.bits .andNot .i64 x d==0)=true:=beq_iff_eq.mpr (of_decide_eq_true hc);have hcc:Go.bits .andNot .i64 x d=0:=of_decide_eq_true hc;clear hc hV hmem hval hlx hat hrg1 hg1 hs1 hltc hwx hwc hrg M3 HB HRG;have MT:=Zk (Qb.tight M4.out);have SZ:=Zk (show Go.Maps.size D3<maxLen by have h1:=HL3.out.2.2;have h2:=Qb.cur_len (t:=d) (left:=left) (rows:=rows) (nx:=nx);have h3:=HN2.out;have h4:=HC2.out.1;unfold maxLen;omega);have NB:=Zk (show b≠b2 from NE.out);have HL5:=Zk (Qb.Rel.put (x:=d) (v:=wrap64 (V+c)) M4.out.isMap (M4.out.tidy Qb.law) HL3.out Qb.cur_split FR.out);go_wp2_with (first|(at_lookup;refine Qb.look _ rfl _ _ 109 rfl 3 3 Qb.law Try.underlying109 Try.underlying3 (Qb.zeroE _) b2 n3 D3 rfl M4.out _ (.int .i64 d) rfl (Go.Maps.keyOf_int_mk Try.underlying3 WFd.out) V HLV.out ?_)|(at_mapUpdate;refine wpList_mapUpdate_own _ rfl _ _ _ 109 rfl 3 3 Qb.law Try.underlying109 (plainElem Try.prog 3) b2 (Go.Maps.size D3) D3 rfl MT.out SZ.out _ _ (.int .i64 d) rfl rfl (Go.Maps.keyOf_int_mk Try.underlying3 WFd.out) (.lit (.int .i64 (wrap64 (V+c)))) [] (plainElem_int Try.underlying3 (Qb.wf_wrap (V+c))) ?_;intro wy hm6 hg6;have M6:=Zk hm6;have R6:=Zk (HRG1.out.kept hg6 (fun e=>NB.out (by injection e)) (fun e=>NR.out (by injection e)));have B6:=Zk (Qex B4.out (some b2) B4.out.size hg6 (fun k_ e=>by injection e with e;rw [←e];exact GB2.out));clear hm6 hg6;go_frame));go_roundw
         case rel=>exact ⟨_,cnt1,_,_,R6,M6,⟨by rw [HL4.out];exact HL5.out⟩,B6⟩
         case measure=>rw [R6.out.left_eq,←HRG1.out.left_eq];exact LT1.out
        ·
         have hcb:(Go.bits .andNot .i64 x d==0)=false:=beq_eq_false_iff_ne.mpr (fun e=>hc (decide_eq_true e));have HL4:=Zk (Qb.cur_no (nx:=nx) hlx HK.out hmem hval (Bool.eq_false_iff.mpr hc));clear hc hmem hval hlx hat hrg1 hg1 hs1 hltc hwx hwc hrg M3 HB HRG;go_wp2;exact ⟨⟨_,cnt1,n3,D3,HRG1,M4,⟨by rw [HL4.out];exact HL3.out⟩,B4⟩,LT1.out⟩
     ·
      have hs:=HS.out;rw [List.drop_of_length_le (by omega)] at hs;have HS2:=Zk (show Qb.step rows ids [] =nx from hs);clear hs HS;go_wp2;go_roundw
      case rel=>exact ⟨q+1,nx,b2,n2,D2,rfl,by first|rw [e2] |rfl,hlt,⟨by rw [←HS2.out];exact HF2.out⟩,M2,HL2,HK2,HB,GB2⟩
      case measure=>(try simp only [e2]);exact (Nat.sub_lt_sub_left hlt (Nat.lt_succ_self q):M - (q+1)<M - q)
   ·
    have hf:=HF.out;rw [show M - q=0 by omega,Qb.iter] at hf;have HF2:=Zk hf;clear hf HF;go_wp2_with (first|(at_range;refine wpList_range_own _ rfl _ 109 rfl 3 3 Qb.law Try.underlying109 _ b n D rfl MW.out ?_;intro w0 hrg0 hg0 hs0)|go_in)
    go_frame
    obtain ⟨r0,hr0⟩: ∃ r0,r0=wr.heap.size:=⟨_,rfl⟩
    rw [←hr0] at hrg0 ⊢;have HR0:=Zk hrg0;have HB0:=Zk (Qex HB.out none HB.out.size hg0 (fun k_ e=>by cases e));have GR:=Zk (show w1.heap.size≤r0 by have:=HB.out.size;omega);have V0:=Zk (show (0:Int)=wrap64 (Qb.vis (fun _=>true) (Go.Maps.has D) rows) by rw [(Qb.vis_start (fun _=>true) (fun y hy=>by rw [HL.out.1 y];simpa using hy)).1];unfold wrap64;omega);clear hr0 hrg0 hg0 hs0 MW HB
    go_loopw [12,14] (fun v12 _ wk=> ∃ (left:Lit→Bool) (cnt:Nat),v12= .int .i64 (wrap64 (Qb.vis (fun _=>true) left rows))∧Z0 (wk.ranges Try.prog 3 (plainElem Try.prog 3) b r0 n D left cnt)∧Z0 (Below w1.heap.size w1 wk)) (fun _ _ wk=>wk.rangeLeft b r0)
    case atStart=>exact ⟨_,_,by rw [←V0.out],HR0,HB0⟩
    case round=>
     clear HR0 HB0;obtain ⟨left,cnt,rfl,HRG,HB⟩:=hrel;have hrg:=HRG.out;go_wp2_with (first|(at_next;refine wpList_next_ranges_ii _ rfl _ rfl 3 3 .i64 .i64 Qb.law Try.underlying3 Try.underlying3 b r0 n _ _ _ rfl hrg ?_ ?_)|go_in)
     ·
      intro _ hl0;have e:left=fun _=>false:=funext hl0
      subst e;have HFF:=Zk (show wrap64 (Qb.vis (fun _=>true) (fun _=>false) rows)=r from HF2.out);clear hl0 hrg HRG;go_wp2
      go_ret
      exact ⟨by rw [HFF.out];rfl,below_to (below_to (Below.refl _ _) B1.out) HB.out⟩
     ·
      intro x c wz cnt1 hwx hwc hlx hat hrg1 hltc hg1 hs1 hen;have hmem:x ∈ rows.map (·.1):=by
       have h1:=HL.out.1 x;rw [Go.Maps.has_true_of_atKey hat] at h1
       simpa using h1.symm
      have hval:Qb.at rows x=c:=by
       have h1:=(HL.out.2.1 x).symm.trans (hat _);injection h1 with h1
       injection h1
      have B4:=Zk (Qex HB.out (some r0) HB.out.size hg1 (fun k_ e=>by injection e with e;rw [←e];exact GR.out));have HRG1:=Zk hrg1;have LT1:=Zk (show wz.rangeLeft b r0<wr.rangeLeft b r0 by rw [hrg1.left_eq,hrg.left_eq];exact hltc);have HV:=Zk (show wrap64 (Qb.vis (fun _=>true) (fun z=>left z && !z.sameKey (.int .i64 x)) rows)=wrap64 (wrap64 (Qb.vis (fun _=>true) left rows)+c) by rw [(Qb.vis_in (fun _=>true) left x c hlx rows HK.out hmem hval).1,if_pos rfl,Qb.wrap_add]);clear hmem hval hlx hat hrg1 hg1 hs1 hltc hwx hwc hrg HB HRG;obtain ⟨V,hV⟩: ∃ V,V=wrap64 (Qb.vis (fun _=>true) left rows):=⟨_,rfl⟩
      rw [←hV] at HV ⊢;clear hV;go_wp2;exact ⟨⟨_,cnt1,by rw [HV.out],HRG1,B4⟩,LT1.out⟩
 ·
  cases h
end Go.Proofs.Ytkgngggppcmpfaa.L
end
section
namespace Go.Proofs.Ytkgngggppcmpfaa.L
open Go.RowKit Go.Proofs.YtkgngggppcmpfaaW.PrintWords Go.Proofs.YtkgngggppcmpfaaW.PrintLast Go.Proofs.YtkgngggppcmpfaaW.PrintMore Go.Proofs.Ytkgngggppcmpfaa.X
attribute [local go_sem] Qbd Qbf Qbn Qbo Q3 Q4 Qbe Qbg
set_option linter.unusedVariables false
set_option linter.unusedSimpArgs false
def Qcw.f (k:Nat) (l0_0:List Int) (a1:Int):Option (Int × Bool):=(Qcj.f k l0_0 a1).bind fun t720=>(if t720=true then ((Qb1.f l0_0).bind fun t721=>(if t721>6 then (some (0,false)) else ((Qb.f k l0_0 a1).bind fun t722=>(some (t722,true))))) else (some (0,false)))
theorem Qcw.mono: ∀ a0 a1 k,LeO (Qcw.f k a0 a1) (Qcw.f (k+1) a0 a1):=by
 intro a0 a1 k;unfold Qcw.f
 repeat' (with_reducible first|apply Qb.mono|apply Qcj.mono|exact LeO.refl _|exact LeO.none _|refine LeO.ite ?_ ?_|refine LeO.bind ?_ (fun _=> ?_))
set_option maxHeartbeats 8000000 in
set_option maxRecDepth 100000 in
theorem Qcw.calls (k:Nat) (A0_0:Option Addr) (c0_0:Nat) (l0_0:List Int) (a1:Int) (r1:Int) (r2:Bool) (w:World) (hr0_0:Kd.C (Kd.int .i64) w A0_0 l0_0.length l0_0) (hc0_0:l0_0.length≤c0_0) (h:Qcw.f k l0_0 a1=some (r1,r2)):
 Calls Try.prog 52 #[.agg #[.slice A0_0 l0_0.length c0_0], .int .i64 a1] w fun e w'=>e= .returned (.tuple #[.int .i64 r1, .bool r2])∧Below w.heap.size w w':=by
 have hu26:=Try.underlying26;have HR0_0:=Zk hr0_0;have HC0_0:=Zk hc0_0;clear hr0_0 hc0_0;have HB:=Zk (Below.refl w.heap.size w);have H:((Qcj.f k l0_0 a1).bind fun t720=>(if t720=true then ((Qb1.f l0_0).bind fun t721=>(if t721>6 then (some (0,false)) else ((Qb.f k l0_0 a1).bind fun t722=>(some (t722,true))))) else (some (0,false))))=some (r1,r2):=h;clear h;obtain ⟨t720,A3,H⟩:=bs H;(try dsimp only at H)
 by_cases c4:t720=true
 ·
  subst c4;rw [if_pos rfl] at H;obtain ⟨t721,A5,H⟩:=bs H;(try dsimp only at H)
  by_cases c6:t721>6
  ·
   rw [if_pos c6] at H;have c6b0:=decide_eq_true c6;clear c6;simp only [Option.some.injEq,Prod.mk.injEq] at H;obtain ⟨rfl,rfl⟩:=H;go_enter Try.func52,Try.ntmps52;go_wp2_with (first|(refine bE (N:=2) (cs:= #[.slice A0_0 l0_0.length c0_0]) (t:=26) ?_;intro gb719 hg w7 hbox hb;have BK719:=Zk (hbox);have GW719:=Zk ((by rw [hg];exact (Qh (uB HB)):w.heap.size≤gb719));have GE719:=GW719;replace HB:=Zk (Qc (uB HB) hb);clear hb hbox hg;have hcz8_0:=bC BK719;have hfz8_0:=Qg BK719.out 0)|(refine gA (some 8) Try.func77 #[.agg #[.slice A0_0 l0_0.length c0_0], .int .i64 a1] ?_;(with_reducible refine (Qcj.calls k _ _ l0_0 a1 true _ (uD HR0_0 HB) HC0_0.out A3.out).mono ?_);rintro e w9 ⟨rfl,hb⟩;refine ⟨_,rfl,?_⟩;replace BK719:=Zk (Qd (uK BK719) hb);replace HB:=Zk (Qc (vB HB) hb);(try clear hb);have hcz10_0:=bC BK719;have hfz10_0:=Qg BK719.out 0)|(go_at_call 65;(with_reducible refine (Qb1.calls _ _ l0_0 t721 _ (uD HR0_0 HB) HC0_0.out A5.out).mono ?_);rintro e w11 ⟨rfl,hb⟩;replace BK719:=Zk (Qd (uK BK719) hb);replace HB:=Zk (Qc (vB HB) hb);(try clear hb)))
   go_ret2
   exact ⟨by first|rfl|(simp [Qe,Qf] <;>rfl)|(simp [*,Qe,Qf] <;>rfl),(vB HB)⟩
  ·
   rw [if_neg c6] at H;have c6b0:=decide_eq_false c6;clear c6;obtain ⟨t722,A12,H⟩:=bs H;(try dsimp only at H)
   simp only [Option.some.injEq,Prod.mk.injEq] at H;obtain ⟨rfl,rfl⟩:=H;go_enter Try.func52,Try.ntmps52;go_wp2_with (first|(refine bE (N:=2) (cs:= #[.slice A0_0 l0_0.length c0_0]) (t:=26) ?_;intro gb719 hg w13 hbox hb;have BK719:=Zk (hbox);have GW719:=Zk ((by rw [hg];exact (Qh (uB HB)):w.heap.size≤gb719));have GE719:=GW719;replace HB:=Zk (Qc (uB HB) hb);clear hb hbox hg;have hcz14_0:=bC BK719;have hfz14_0:=Qg BK719.out 0)|(refine gA (some 8) Try.func77 #[.agg #[.slice A0_0 l0_0.length c0_0], .int .i64 a1] ?_;(with_reducible refine (Qcj.calls k _ _ l0_0 a1 true _ (uD HR0_0 HB) HC0_0.out A3.out).mono ?_);rintro e w15 ⟨rfl,hb⟩;refine ⟨_,rfl,?_⟩;replace BK719:=Zk (Qd (uK BK719) hb);replace HB:=Zk (Qc (vB HB) hb);(try clear hb);have hcz16_0:=bC BK719;have hfz16_0:=Qg BK719.out 0)|(go_at_call 65;(with_reducible refine (Qb1.calls _ _ l0_0 t721 _ (uD HR0_0 HB) HC0_0.out A5.out).mono ?_);rintro e w17 ⟨rfl,hb⟩;replace BK719:=Zk (Qd (uK BK719) hb);replace HB:=Zk (Qc (vB HB) hb);(try clear hb);have hcz18_0:=bC BK719;have hfz18_0:=Qg BK719.out 0)|(refine gA (some 17) Try.func110 #[.agg #[.slice A0_0 l0_0.length c0_0], .int .i64 a1] ?_;(with_reducible refine (Qb.calls k _ _ l0_0 a1 t722 _ (uD HR0_0 HB) HC0_0.out A12.out).mono ?_);rintro e w19 ⟨rfl,hb⟩;refine ⟨_,rfl,?_⟩;replace BK719:=Zk (Qd (uK BK719) hb);replace HB:=Zk (Qc (vB HB) hb);(try clear hb)))
   go_ret2
   exact ⟨by first|rfl|(simp [Qe,Qf] <;>rfl)|(simp [*,Qe,Qf] <;>rfl),(vB HB)⟩
 ·
  replace c4:=Bool.eq_false_iff.mpr c4;subst c4;rw [if_neg (show ¬ (false=true) by decide)] at H;simp only [Option.some.injEq,Prod.mk.injEq] at H;obtain ⟨rfl,rfl⟩:=H;go_enter Try.func52,Try.ntmps52;go_wp2_with (first|(refine bE (N:=2) (cs:= #[.slice A0_0 l0_0.length c0_0]) (t:=26) ?_;intro gb719 hg w20 hbox hb;have BK719:=Zk (hbox);have GW719:=Zk ((by rw [hg];exact (Qh (uB HB)):w.heap.size≤gb719));have GE719:=GW719;replace HB:=Zk (Qc (uB HB) hb);clear hb hbox hg;have hcz21_0:=bC BK719;have hfz21_0:=Qg BK719.out 0)|(refine gA (some 8) Try.func77 #[.agg #[.slice A0_0 l0_0.length c0_0], .int .i64 a1] ?_;(with_reducible refine (Qcj.calls k _ _ l0_0 a1 false _ (uD HR0_0 HB) HC0_0.out A3.out).mono ?_);rintro e w22 ⟨rfl,hb⟩;refine ⟨_,rfl,?_⟩;replace BK719:=Zk (Qd (uK BK719) hb);replace HB:=Zk (Qc (vB HB) hb);(try clear hb)))
  go_ret2
  exact ⟨by first|rfl|(simp [Qe,Qf] <;>rfl)|(simp [*,Qe,Qf] <;>rfl),(vB HB)⟩
def Qcz.f (k:Nat) (l0:List Int):Option (List Int × Int):=(Q0.f k l0 0 0 7).bind fun bt725=>((Qbh.f l0 bt725.2.1 bt725.2.2 (([0,1,2,3,5,20,21,(-1)] :List Int))).bind fun bt733=>(some (bt725.1,bt733.1)))
theorem Qcz.mono: ∀ a0 k,LeO (Qcz.f k a0) (Qcz.f (k+1) a0):=by
 intro a0 k;unfold Qcz.f
 repeat' (with_reducible first|apply Q0.mono|exact LeO.refl _|exact LeO.none _|refine LeO.ite ?_ ?_|refine LeO.bind ?_ (fun _=> ?_))
set_option maxHeartbeats 8000000 in
set_option maxRecDepth 100000 in
theorem Qcz.calls (k:Nat) (A0:Option Addr) (c0:Nat) (l0:List Int) (r1:List Int) (r2:Int) (w:World) (hr0:Kd.C (Kd.int .u8) w A0 l0.length l0) (hc0:l0.length≤c0) (h:Qcz.f k l0=some (r1,r2)):
 Calls Try.prog 53 #[.slice A0 l0.length c0] w fun e w'=> ∃ v0_:Value,e= .returned (.tuple #[.agg #[v0_], .int .i64 r2])∧Kd.R (Kd.int .i64) 3 w' w.heap.size (fun _=>True) v0_ r1∧Below w.heap.size w w':=by
 have hu26:=Try.underlying26;have hu67:=Try.underlying67;have HR0:=Zk hr0;have HC0:=Zk hc0;clear hr0 hc0;have HB:=Zk (Below.refl w.heap.size w);have H:((Q0.f k l0 0 0 7).bind fun bt725=>((Qbh.f l0 bt725.2.1 bt725.2.2 (([0,1,2,3,5,20,21,(-1)] :List Int))).bind fun bt733=>(some (bt725.1,bt733.1))))=some (r1,r2):=h;clear h;obtain ⟨⟨t725,t728,t729⟩,A2,H⟩:=bs H;(try dsimp only at H)
 obtain ⟨y730,hy730⟩: ∃ y_:List Int,y_=(([0,1,2,3,5,20,21,(-1)] :List Int)):=⟨_,rfl⟩
 replace H:((Qbh.f l0 t728 t729 y730).bind fun bt733=>(some (t725,bt733.1)))=some (r1,r2):=by first|(rw [hy730];with_reducible exact H)|(have H2_:=(Option.bind_some _ _).symm.trans H;rw [hy730];with_reducible exact H2_)|(have H2_:=(Option.bind_some _ _).symm.trans H;with_reducible exact H2_)|with_reducible exact H|(rw [hy730];exact H)|exact H
 have Ny730:=Zk hy730;clear hy730;obtain ⟨⟨t733,t734,t735⟩,A3,H⟩:=bs H;(try dsimp only at H)
 simp only [Option.some.injEq,Prod.mk.injEq] at H;obtain ⟨rfl,rfl⟩:=H;go_enter Try.func53,Try.ntmps53;go_wp2_with (first|((with_reducible refine Qb2 (N:=2) rfl ?_);refine Qeo ?hg (N:=2) ?hd (cs:= #[.slice none 0 0]) (t:=26) ?hr ?_;(case hd=>rfl);(case hg=>rfl);(case hr=>first|(go_simp;done)|(go_simp;rfl));intro gb723 hg w4 hbox hb;have BK723:=Zk (hbox);have GW723:=Zk ((by rw [hg];exact (Qh (by repeat (first|(with_reducible first|exact HB.out|apply Qq|apply Qw|apply Qbb)|exact HB.out))):w.heap.size≤gb723));have GE723:=GW723;replace HB:=Zk (Qc (by repeat (first|(with_reducible first|exact HB.out|apply Qq|apply Qw|apply Qbb)|exact HB.out)) hb);clear hb hbox hg)|((with_reducible refine Qb2 (N:=7) rfl ?_);refine Qeo ?hg (N:=7) ?hd (cs:= #[.slice A0 l0.length c0, .int .i64 0, .int .u64 0]) (t:=67) ?hr ?_;(case hd=>rfl);(case hg=>rfl);(case hr=>first|(go_simp;done)|(go_simp;rfl));intro gb724 hg w5 hbox hb;have HI724:=Zk ((⟨_,_,hbox,(by rw [hg];exact (Qh (by repeat (first|(with_reducible first|exact HB.out|apply Qq|apply Qw|apply Qbb|refine Q1 ?_ GE723.out)|exact HB.out))):w.heap.size≤gb724),HR0.out⟩:Qa w _ gb724 l0 0 0));have GW724:=Zk ((by rw [hg];exact (Qh (by repeat (first|(with_reducible first|exact HB.out|apply Qq|apply Qw|apply Qbb|refine Q1 ?_ GE723.out)|exact HB.out))):w.heap.size≤gb724));have GE724:=GW724;replace HB:=Zk (Qc (by repeat (first|(with_reducible first|exact HB.out|apply Qq|apply Qw|apply Qbb|refine Q1 ?_ GE723.out)|exact HB.out)) hb);have NB723_724:=Zk ((by rw [hg];exact Nat.ne_of_lt (Qb9 (g:=gb723) (o:= .cells #[.slice none 0 0] 26 (0,0)) (by (with_reducible repeat (first|refine Qbp ?_ _|refine Qbj ?_|refine Qbk ?_ _));exact BK723.out)):gb723≠gb724));have NB724_723:=Zk ((by rw [hg];exact Nat.ne_of_gt (Qb9 (g:=gb723) (o:= .cells #[.slice none 0 0] 26 (0,0)) (by (with_reducible repeat (first|refine Qbp ?_ _|refine Qbj ?_|refine Qbk ?_ _));exact BK723.out)):gb724≠gb723));replace BK723:=Zk (Qd (g:=gb723) (o:= .cells #[.slice none 0 0] 26 (0,0)) (by (with_reducible repeat (first|refine Qbp ?_ _|refine Qbj ?_|refine Qbk ?_ _));exact BK723.out) hb);clear hb hbox hg)|((with_reducible refine Qdx (f:=107) rfl ?_);refine Qe3 (some 9) rfl rfl Try.func107 (by kernel_rfl) rfl #[.pointer (some ⟨gb724,0,none⟩), .int .i64 7] rfl (by (try simp only [List.map_toArray,List.map_cons,List.map_nil]);first|done|rfl|(simp only [List.length_drop,List.length_take];rfl)) ?_;(with_reducible refine (Q0.calls k gb724 l0 0 0 7 t725 t728 t729 w _ ?side1 ?side2 A2.out).mono ?_);(case side1=>repeat (first|(with_reducible first|exact HI724.out|apply Qa.alloc|apply Qa.drewN|apply Qa.drew|apply Qa.set_1|apply Qa.set_2|refine Qa.far ?_ NB724_723.out _)|exact HI724.out));(case side2=>repeat (first|(with_reducible first|exact HB.out|apply Qq|apply Qw|apply Qbb|refine Q1 ?_ (Qa.ge HI724.out)|refine Q1 ?_ GE723.out)|exact HB.out));rintro e w6 ⟨v726,rfl,ho0,hi,hb,hk⟩;refine ⟨_,rfl,?_⟩;replace BK723:=Zk (Qj.blk hk (g':=gb723) (o:= .cells #[.slice none 0 0] 26 (0,0)) (by (with_reducible repeat (first|refine Qbp ?_ _|refine Qbj ?_|refine Qbk ?_ _));exact BK723.out) NB723_724.out (by simp));have HO727:=Zk (Kd.R_lower ho0 (Qh (by repeat (first|(with_reducible first|exact HB.out|apply Qq|apply Qw|apply Qbb|refine Q1 ?_ (Qa.ge HI724.out)|refine Q1 ?_ GE723.out)|exact HB.out))));replace HB:=Zk (hb);replace HI724:=Zk (hi);(try clear hb);(try clear hb2);(try clear hk);(try clear hi);(try clear ho0))|((with_reducible refine Qb2 (N:=11) rfl ?_);refine Kd.R_lit (Kd.int .i64) _ 3 ?hg (N:=11) ?hd (xs:=([0,1,2,3,5,20,21,(-1)] :List Int)) (inner:= [.int .i64 0, .int .i64 1, .int .i64 2, .int .i64 3, .int .i64 5, .int .i64 20, .int .i64 21, .int .i64 (-1)]) (ok:=fun _=>True) (okp:=fun _=>True) ?hr ?hp (fun _ hk=>hk) trivial (Below.refl _ _) (Nat.le_refl _) (by simp) ?_;(case hd=>rfl);(case hg=>rfl);(case hr=>first|(go_simp;done)|(go_simp;rfl));(case hp=>exact (Reps.one (show Kd.M (Kd.int .i64) _ _ _ 0 [.int .i64 0] from rfl) (Reps.one (show Kd.M (Kd.int .i64) _ _ _ 1 [.int .i64 1] from rfl) (Reps.one (show Kd.M (Kd.int .i64) _ _ _ 2 [.int .i64 2] from rfl) (Reps.one (show Kd.M (Kd.int .i64) _ _ _ 3 [.int .i64 3] from rfl) (Reps.one (show Kd.M (Kd.int .i64) _ _ _ 5 [.int .i64 5] from rfl) (Reps.one (show Kd.M (Kd.int .i64) _ _ _ 20 [.int .i64 20] from rfl) (Reps.one (show Kd.M (Kd.int .i64) _ _ _ 21 [.int .i64 21] from rfl) (Reps.one (show Kd.M (Kd.int .i64) _ _ _ (-1) [.int .i64 (-1)] from rfl) (Reps.none _ _))))))))));intro v731 w7 ho8 hb hg_ hnew_;clear hg_ hnew_;(first|rw [←Ny730.out] at ho8|(simp only [Int.reduceToNat] at ho8;rw [←Ny730.out] at ho8));have HO732:=Zk (Kd.R_lower (Kd.R_new' ho8 (Kd.R_lt (by (with_reducible repeat (first|apply Kd.R_alloc|apply Kd.R_drewN|apply Kd.R_drew));exact HO727.out))) (Qh (by repeat (first|(with_reducible first|exact HB.out|apply Qq|apply Qw|apply Qbb|refine Q1 ?_ (Qa.ge HI724.out)|refine Q1 ?_ GE723.out)|exact HB.out))));replace HO727:=Zk (Kd.R_elder' (by (with_reducible repeat (first|apply Kd.R_alloc|apply Kd.R_drewN|apply Kd.R_drew));exact HO727.out) (Kd.R_base ho8) hb);replace BK723:=Zk (Qd (g:=gb723) (o:= .cells #[.slice none 0 0] 26 (0,0)) (by (with_reducible repeat (first|refine Qbp ?_ _|refine Qbj ?_|refine Qbk ?_ _));exact BK723.out) hb);replace HB:=Zk (Qc (by repeat (first|(with_reducible first|exact HB.out|apply Qq|apply Qw|apply Qbb|refine Q1 ?_ (Qa.ge HI724.out)|refine Q1 ?_ GE723.out)|exact HB.out)) hb);replace HI724:=Zk (Qa.below (by repeat (first|(with_reducible first|exact HI724.out|apply Qa.alloc|apply Qa.drewN|apply Qa.drew|apply Qa.set_1|apply Qa.set_2|refine Qa.far ?_ NB724_723.out _)|exact HI724.out)) hb);clear hb ho8;obtain ⟨Ao9,co9,eo9⟩:=Kd.R_slice HO732.out;subst eo9)|((with_reducible refine Qdx (f:=94) rfl ?_);refine Qe3 (some 12) rfl rfl Try.func94 (by kernel_rfl) rfl #[.pointer (some ⟨gb724,0,none⟩), .slice Ao9 y730.length co9] rfl (by (try simp only [List.map_toArray,List.map_cons,List.map_nil]);first|done|rfl|(simp only [List.length_drop,List.length_take];rfl)) ?_;(with_reducible refine (Qbh.calls gb724 l0 t728 t729 _ _ y730 t733 t734 t735 w _ ?side1 ?side2 ?side3 ?side4 ?side5 A3.out).mono ?_);(case side1=>repeat (first|(with_reducible first|exact HI724.out|apply Qa.alloc|apply Qa.drewN|apply Qa.drew|apply Qa.set_1|apply Qa.set_2|refine Qa.far ?_ NB724_723.out _)|exact HI724.out));(case side2=>repeat (first|(with_reducible first|exact HB.out|apply Qq|apply Qw|apply Qbb|refine Q1 ?_ (Qa.ge HI724.out)|refine Q1 ?_ GE723.out)|exact HB.out));(case side3=>repeat (first|exact (Kd.R_reads' HO732.out).2.2|(with_reducible refine Kd.C_alloc ?_ _)|(with_reducible refine Kd.C_drewN ?_ _)|(with_reducible refine Kd.C_drew ?_)));(case side4=>exact (Kd.R_reads' HO732.out).2.1);(case side5=>exact Qeh (Qa.own_ne HI724.out HO732.out (by decide)));rintro e w10 ⟨rfl,hi,hb,hk⟩;refine ⟨_,rfl,?_⟩;replace BK723:=Zk (Qj.blk hk (g':=gb723) (o:= .cells #[.slice none 0 0] 26 (0,0)) (by (with_reducible repeat (first|refine Qbp ?_ _|refine Qbj ?_|refine Qbk ?_ _));exact BK723.out) NB723_724.out (by simp));replace HO727:=Zk (Kd.R_mono (Kd.R_keep (Qa.apart (show Qa w _ gb724 l0 t728 t729 from by repeat (first|(with_reducible first|exact HI724.out|apply Qa.alloc|apply Qa.drewN|apply Qa.drew|apply Qa.set_1|apply Qa.set_2|refine Qa.far ?_ NB724_723.out _)|exact HI724.out)) (by (with_reducible repeat (first|apply Kd.R_alloc|apply Kd.R_drewN|apply Kd.R_drew));exact HO727.out) (by decide)) hk (fun _ h=>h.2)) (fun _ h=>h.1));replace HO732:=Zk (Kd.R_mono (Kd.R_keep (Qa.apart (show Qa w _ gb724 l0 t728 t729 from by repeat (first|(with_reducible first|exact HI724.out|apply Qa.alloc|apply Qa.drewN|apply Qa.drew|apply Qa.set_1|apply Qa.set_2|refine Qa.far ?_ NB724_723.out _)|exact HI724.out)) (by (with_reducible repeat (first|apply Kd.R_alloc|apply Kd.R_drewN|apply Kd.R_drew));exact HO732.out) (by decide)) hk (fun _ h=>h.2)) (fun _ h=>h.1));replace HB:=Zk (hb);replace HI724:=Zk (hi);(try clear hb);(try clear hb2);(try clear hk);(try clear hi);obtain ⟨Ao11,co11,eo11⟩:=Kd.R_slice HO727.out;subst eo11;have hnb12:=NB723_724.out;have hnc12:=NB724_723.out;have hcz13_0:w10.cell? ⟨gb723,0,none⟩=some (.slice none 0 0):=(Qb4 BK723.out 0).trans rfl;have hfz13_0:=Qg BK723.out 0))
 refine bodyPost_ret (Qee rfl _ _ gb723 26 #[.slice Ao11 t725.length co11] (0,0) _ rfl (by (with_reducible repeat (first|refine Qbp ?_ _|refine Qbj ?_|refine Qbk ?_ _));refine Qfk (cs:= #[.slice none 0 0]) ?_ 0 _ rfl;(with_reducible repeat (first|refine Qbp ?_ _|refine Qbj ?_|refine Qbk ?_ _));exact BK723.out) Try.underlying26 rfl (by kernel_rfl)) rfl ?_;exact ⟨_,by first|rfl|(simp [Qe,Qf] <;>rfl)|(simp [*,Qe,Qf] <;>rfl),by (with_reducible repeat (first|apply Kd.R_alloc|apply Kd.R_drewN|apply Kd.R_drew));exact Kd.R_mono (Kd.R_far (p:=⟨gb723,0,none⟩) (Kd.R_types HO727.out BK723.out (by decide)) (fun _ hk=>hk.2) (.slice Ao11 t725.length co11)) (fun _ hk=>trivial),(Qa.vB HB)⟩
def Qb7.l0:Nat→List Int→Int→List Int→Option (List Int)
 |0,_,_,_=>none
 |k+1,x3,x4,x737000=>if x4<(shl .i64 1 (x737000.length:Int)) then ((Qbx.f k x737000 x4).bind fun t737=>(if t737=true then (if x3.length<17592186044416 then (Qb7.l0 k (x3++ [x4]) (wrap64 (x4+1)) x737000) else (none)) else (Qb7.l0 k x3 (wrap64 (x4+1)) x737000))) else (some x3)
def Qb7.f (k:Nat) (l0_0:List Int):Option (List Int):=Qb7.l0 k ([] :List Int) 0 l0_0
theorem Qb7.mono_l: ∀ k,(∀ y0 y1 y2,LeO (Qb7.l0 k y0 y1 y2) (Qb7.l0 (k+1) y0 y1 y2))
 |0=>fun _ _ _ r h=>by simp [Qb7.l0] at h
 |k+1=>by
  have ih0:=Qb7.mono_l k
  ·
   intro y0 y1 y2;unfold Qb7.l0
   repeat' first
   |(with_reducible exact ih0 _ _ _)
   |(with_reducible exact Qbx.mono _ _ _)
   |(with_reducible exact LeO.refl _)
   |(with_reducible exact LeO.none _)
   |(with_reducible refine LeO.ite ?_ ?_)
   |(with_reducible refine LeO.bind ?_ (fun _=> ?_))
   |exact ih0 _ _ _
   |exact Qbx.mono _ _ _
   |exact LeO.none _
   |refine LeO.ite ?_ ?_
   |refine LeO.bind ?_ (fun _=> ?_)
theorem Qb7.mono: ∀ a0 k,LeO (Qb7.f k a0) (Qb7.f (k+1) a0):=by
 intro a0 k;have ih0:=Qb7.mono_l k;unfold Qb7.f
 repeat' (with_reducible first|apply ih0|apply Qbx.mono|exact LeO.refl _|exact LeO.none _|refine LeO.ite ?_ ?_|refine LeO.bind ?_ (fun _=> ?_))
set_option maxHeartbeats 8000000 in
set_option maxRecDepth 100000 in
theorem Qb7.calls (k:Nat) (A0_0:Option Addr) (c0_0:Nat) (l0_0:List Int) (r:List Int) (w:World) (hr0_0:Kd.C (Kd.int .i64) w A0_0 l0_0.length l0_0) (hc0_0:l0_0.length≤c0_0) (h:Qb7.f k l0_0=some r):
 Calls Try.prog 111 #[.agg #[.slice A0_0 l0_0.length c0_0]] w fun e w'=> ∃ v0_:Value,e= .returned (v0_)∧Kd.R (Kd.int .i64) 3 w' w.heap.size (fun _=>True) v0_ r∧Below w.heap.size w w':=by
 have hu26:=Try.underlying26;have HR0_0:=Zk hr0_0;have HC0_0:=Zk hc0_0;clear hr0_0 hc0_0;have HB:=Zk (Below.refl w.heap.size w);have H:(Qb7.l0 k ([] :List Int) 0 l0_0)=some r:=h;clear h;have H':=Zk H;clear H;go_enter Try.func111,Try.ntmps111;go_wp2_with (first|(refine bE (N:=1) (cs:= #[.slice A0_0 l0_0.length c0_0]) (t:=26) ?_;intro gb736 hg w2 hbox hb;have BK736:=Zk (hbox);have GW736:=Zk ((by rw [hg];exact (Qh (uB HB)):w.heap.size≤gb736));have GE736:=GW736;replace HB:=Zk (Qc (uB HB) hb);clear hb hbox hg))
 go_loopg [3,4] k (fun kq v3 v4 w'=> ∃ (x3_1:List Int) (x4_1:Int),v4= .int .i64 x4_1∧Z0 (Qb7.l0 kq x3_1 x4_1 l0_0=some r)∧Z0 (kq≤k)∧Z0 (Kd.R (Kd.int .i64) 3 w' w.heap.size (fun _=>True) v3 x3_1)∧Z0 (w'.heap[gb736]? =some (.cells #[(.slice A0_0 l0_0.length c0_0)] 26 (0,0)))∧Z0 (Below w.heap.size w w'))
 case atStart=>exact ⟨(([] :List Int)),(0),(by first|rfl|(simp;done)|(simp [*];done)),H',⟨Nat.le_refl _⟩,⟨by first|exact Kd.R_nil _ _ _ _ _|exact Kd.N_nil _ _ _ _ _|exact Kd.V_nil _ _ _ _ _|exact Kd.Q_nil _ _ _ _ _|exact Kd.S_nil _ _ _ _ _⟩,⟨uK BK736⟩,⟨(vB HB)⟩⟩
 case round=>
  clear H'
  skip
  obtain ⟨x3_1,x4_1,rfl,HA,HK1,HO_3,BK736,HB⟩:=hrel;cases gk with
  |zero=>exact absurd HA.out (by simp [Qb7.l0])
  |succ k1=>
   have H:=HA.out;clear HA;simp only [Qb7.l0] at H;obtain ⟨ji3,hji3⟩: ∃ j_:Int,(shl .i64 1 (l0_0.length:Int))=j_:=⟨_,rfl⟩
   replace H:(if x4_1<(ji3) then ((Qbx.f k1 l0_0 x4_1).bind fun t737=>(if t737=true then (if x3_1.length<17592186044416 then (Qb7.l0 k1 (x3_1++ [x4_1]) (wrap64 (x4_1+1)) l0_0) else (none)) else (Qb7.l0 k1 x3_1 (wrap64 (x4_1+1)) l0_0))) else (some x3_1))=some r:=by first|(rw [hji3] at H;exact H)|(simp only [hji3] at H ⊢;exact H)
   have hji3_:(IntKind.i64.wrap (1*2 ^ min (l0_0.length:Int).toNat 64))=ji3:=hji3;have hji3z:(l0_0.length:Int)≤64→(IntKind.i64.wrap (1*2 ^ (l0_0.length:Int).toNat))=ji3:=Qeb hji3;have hji3p:(IntKind.i64.wrap (1*2 ^ min l0_0.length 64))=ji3:=hji3_;have hji3q:(l0_0.length:Int)≤64→(IntKind.i64.wrap (1*2 ^ l0_0.length))=ji3:=hji3z;have hji3r:(IntKind.i64.wrap (2 ^ min l0_0.length 64))=ji3:=by have h_:=hji3p;rw [Int.one_mul] at h_;exact h_
   have hji3s:(l0_0.length:Int)≤64→(IntKind.i64.wrap (2 ^ l0_0.length))=ji3:=fun hle_=>by have h_:=hji3q hle_;rw [Int.one_mul] at h_;exact h_
   have hji3u:(IntKind.i64.wrap (2 ^ min (l0_0.length:Int).toNat 64))=ji3:=by have h_:=hji3_;rw [Int.one_mul] at h_;exact h_
   have hji3v:(l0_0.length:Int)≤64→(IntKind.i64.wrap (2 ^ (l0_0.length:Int).toNat))=ji3:=fun hle_=>by have h_:=hji3z hle_;rw [Int.one_mul] at h_;exact h_
   have hji3y:(wrap64 (1*2 ^ min (l0_0.length:Int).toNat 64))=ji3:=(Qci _).symm.trans hji3_;have hji3x:(l0_0.length:Int)≤64→(wrap64 (1*2 ^ (l0_0.length:Int).toNat))=ji3:=fun h_=>(Qci _).symm.trans (hji3z h_)
   by_cases c4:x4_1<(ji3)
   ·
    rw [if_pos c4] at H;have c4b0:=decide_eq_true c4;clear c4;obtain ⟨t737,A5,H⟩:=bs H;(try dsimp only at H)
    by_cases c6:t737=true
    ·
     subst c6;rw [if_pos rfl] at H
     by_cases c7:x3_1.length<17592186044416
     ·
      rw [if_pos c7] at H;have LMc7:=Zk c7;clear c7;obtain ⟨y738,hy738⟩: ∃ y_:List Int,y_=(x3_1++ [x4_1]):=⟨_,rfl⟩
      replace H:(Qb7.l0 k1 y738 (wrap64 (x4_1+1)) l0_0)=some r:=by first|(rw [hy738];with_reducible exact H)|(have H2_:=(Option.bind_some _ _).symm.trans H;rw [hy738];with_reducible exact H2_)|(have H2_:=(Option.bind_some _ _).symm.trans H;with_reducible exact H2_)|with_reducible exact H|(rw [hy738];exact H)|exact H
      have Ny738:=Zk hy738;clear hy738;have H':=Zk H;clear H;have hcz8_0:=bC BK736;have hfz8_0:=Qg BK736.out 0;go_wp2_with (first|(refine gA (some 15) Try.func101 #[.agg #[.slice A0_0 l0_0.length c0_0], .int .i64 x4_1] ?_;(with_reducible refine (Qbx.calls k1 _ _ l0_0 x4_1 true _ (uD HR0_0 HB) HC0_0.out A5.out).mono ?_);rintro e w9 ⟨rfl,hb⟩;refine ⟨_,rfl,?_⟩;replace HO_3:=Zk (Kd.R_below (uR HO_3) hb);replace BK736:=Zk (Qd (uK BK736) hb);replace HB:=Zk (Qc (vB HB) hb);(try clear hb))|((with_reducible refine Qcl (b:= .append) (xs:= #[.tmp 16, .tmp 18]) rfl ?_);at_builtin;refine Kd.R_append (Kd.int .i64) (w0:=w) w.heap.size rfl (.tmp 16) (.tmp 18) 24 3 (.int .i64 0) 8 rfl Try.underlying24 Qed rfl (by decide) (by omega) u3 x3_1 x4_1 [.int .i64 x4_1] (fun _=>True) (fun _=>False) rfl rfl ?aP (fun _ hk=>hk.elim) ?aF ?aO ?aB ?aS ?aL ?_;(case aP=>exact rfl);(case aB=>exact (vB HB));(case aF=>exact (fun _ _=>trivial));(case aO=>exact (uR HO_3));(case aS=>exact (Qh (vB HB)));(case aL=>have:=LMc7.out;omega);intro v739 w10 ho hb hg hat;rw [←Ny738.out] at ho;replace BK736:=Zk (Qb8 (uK BK736) hg (Kd.R_ne HO_3.out BK736.out (by decide)));replace HB:=Zk (hb);have HO740:=Zk (ho);clear HO_3;clear ho hb hg hat));go_roundg k1
      case measure=>have:=HK1.out;omega
      case rel=>exact ⟨(y738),(wrap64 (x4_1+1)),(by first|rfl|(simp;done)|(simp [*];done)),H',⟨by have:=HK1.out;omega⟩,⟨uR HO740⟩,⟨uK BK736⟩,⟨(vB HB)⟩⟩
     ·
      rw [if_neg c7] at H;exact absurd H (by simp)
    ·
     replace c6:=Bool.eq_false_iff.mpr c6;subst c6;rw [if_neg (show ¬ (false=true) by decide)] at H;have H':=Zk H;clear H;have hcz11_0:=bC BK736;have hfz11_0:=Qg BK736.out 0;go_wp2_with (first|(refine gA (some 15) Try.func101 #[.agg #[.slice A0_0 l0_0.length c0_0], .int .i64 x4_1] ?_;(with_reducible refine (Qbx.calls k1 _ _ l0_0 x4_1 false _ (uD HR0_0 HB) HC0_0.out A5.out).mono ?_);rintro e w12 ⟨rfl,hb⟩;refine ⟨_,rfl,?_⟩;replace HO_3:=Zk (Kd.R_below (uR HO_3) hb);replace BK736:=Zk (Qd (uK BK736) hb);replace HB:=Zk (Qc (vB HB) hb);(try clear hb)));go_roundg k1
     case measure=>have:=HK1.out;omega
     case rel=>exact ⟨(x3_1),(wrap64 (x4_1+1)),(by first|rfl|(simp;done)|(simp [*];done)),H',⟨by have:=HK1.out;omega⟩,⟨uR HO_3⟩,⟨uK BK736⟩,⟨(vB HB)⟩⟩
   ·
    rw [if_neg c4] at H;have c4b0:=decide_eq_false c4;clear c4;obtain rfl:=Option.some.inj H;have hcz13_0:=bC BK736;have hfz13_0:=Qg BK736.out 0;go_wp2
    go_ret
    exact ⟨_,by first|rfl|(simp [Qe,Qf] <;>rfl)|(simp only [←hji3];first|rfl|(simp [Qe,Qf] <;>rfl))|(simp [*,Qe,Qf] <;>rfl),uR HO_3,(vB HB)⟩
end Go.Proofs.Ytkgngggppcmpfaa.L
end
