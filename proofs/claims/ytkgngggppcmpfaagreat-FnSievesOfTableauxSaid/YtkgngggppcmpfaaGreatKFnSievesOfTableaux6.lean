/- Laws about the given program: the law FnSievesOfTableaux answers true for every input that its row lets in; no condition is added to the given statement. Contracts of the Go functions that it reaches, and the plain proof over lists. -/
import Derived.Test.YtkgngggppcmpfaaGreatWFnSievesOfTableaux0
import Derived.Test.YtkgngggppcmpfaaGreatKFnSievesOfTableaux0
import Derived.Test.YtkgngggppcmpfaaGreatKFnSievesOfTableaux1
import Derived.Test.YtkgngggppcmpfaaGreatKFnSievesOfTableaux2
import Derived.Test.YtkgngggppcmpfaaGreatKFnSievesOfTableaux3
import Derived.Test.YtkgngggppcmpfaaGreatKFnSievesOfTableaux4
import Derived.Test.YtkgngggppcmpfaaGreatKFnSievesOfTableaux5
section
namespace Go.Proofs.YtkgngggppcmpfaaGreat.L
open Go.RowKit Go.Proofs.YtkgngggppcmpfaaGreatW.PrintWords Go.Proofs.YtkgngggppcmpfaaGreatW.PrintLast Go.Proofs.YtkgngggppcmpfaaGreatW.PrintMore Go.Proofs.YtkgngggppcmpfaaGreat.X
attribute [local go_sem] Qy Q0 Qbb Qbc Qp Qq Qz Q1
set_option linter.unusedVariables false
set_option linter.unusedSimpArgs false
def Qdh.f (l0_0:List Int) (l1:List Int) (a2:Int):Option (List Int):=(Qd9.f l1).bind fun t550=>(if 0≤a2 then (if a2<(l1.length:Int) then (if 0≤(wrap64 (a2+1)) then (if (wrap64 (a2+1))<(l1.length:Int) then ((Qe3.f l0_0 (rd l1 a2) (rd l1 (wrap64 (a2+1)))).bind fun t555=>(if t555=true then (some t550) else (if a2<(t550.length:Int) then (if (wrap64 (a2+1))<(t550.length:Int) then (some ((t550.set (a2:Int).toNat (rd l1 (wrap64 (a2+1)))).set ((wrap64 (a2+1)):Int).toNat (rd l1 a2))) else (none)) else (none)))) else (none)) else (none)) else (none)) else (none))
def Qdh.T2:Bool × List (List Nat × List Nat):=(true,[([],[]),([],[]),([],[]),([1,2],[1,2]),([3],[3]),([],[]),([],[]),([6],[6]),([5,7],[5,7]),([8],[8]),([0,4,9],[0,4,9]),([10],[10])])
def Qdh.B2:List Nat:= [0,0,0,6,14,0,0,64,224,480,1023,2047]
theorem Qdh.tab2:rtab .any (Qfz Tryz.f329 2)=Qdh.T2:=by kernel_rfl
theorem Qdh.bits2:Qen Qdh.T2.2 Qdh.B2=true:=by kernel_rfl
set_option maxHeartbeats 8000000 in
set_option maxRecDepth 100000 in
theorem Qdh.calls (A0_0:Option Addr) (c0_0:Nat) (l0_0:List Int) (A1:Option Addr) (c1:Nat) (l1:List Int) (a2:Int) (r:List Int) (w:World) (hr0_0:Kd.C (Kd.int .i64) w A0_0 l0_0.length l0_0) (hc0_0:l0_0.length≤c0_0) (hr1:Kd.C (Kd.int .i64) w A1 l1.length l1) (hc1:l1.length≤c1) (h:Qdh.f l0_0 l1 a2=some r):
 Calls Tryz.prog 329 #[.agg #[.slice A0_0 l0_0.length c0_0], .slice A1 l1.length c1, .int .i64 a2] w fun e w'=> ∃ v0_:Value,e= .returned (v0_)∧Kd.R (Kd.int .i64) 3 w' w.heap.size (fun _=>True) v0_ r∧Below w.heap.size w w':=by
 have hu26:=Tryz.underlying26;have HR0_0:=Zk hr0_0;have HC0_0:=Zk hc0_0;clear hr0_0 hc0_0;have HR1:=Zk hr1;have HC1:=Zk hc1;clear hr1 hc1;have HB:=Zk (Below.refl w.heap.size w);have H:((Qd9.f l1).bind fun t550=>(if 0≤a2 then (if a2<(l1.length:Int) then (if 0≤(wrap64 (a2+1)) then (if (wrap64 (a2+1))<(l1.length:Int) then ((Qe3.f l0_0 (rd l1 a2) (rd l1 (wrap64 (a2+1)))).bind fun t555=>(if t555=true then (some t550) else (if a2<(t550.length:Int) then (if (wrap64 (a2+1))<(t550.length:Int) then (some ((t550.set (a2:Int).toNat (rd l1 (wrap64 (a2+1)))).set ((wrap64 (a2+1)):Int).toNat (rd l1 a2))) else (none)) else (none)))) else (none)) else (none)) else (none)) else (none)))=some r:=h;clear h;obtain ⟨t550,A4,H⟩:=bs H;(try dsimp only at H)
 by_cases c5:0≤a2
 ·
  rw [if_pos c5] at H;have c5b0:=decide_eq_true c5;clear c5
  by_cases c6:a2<(l1.length:Int)
  ·
   rw [if_pos c6] at H;have c6b0:=decide_eq_true c6;clear c6;obtain ⟨ji7,hji7⟩: ∃ j_:Int,(wrap64 (a2+1))=j_:=⟨_,rfl⟩
   replace H:(if 0≤(ji7) then (if (ji7)<(l1.length:Int) then ((Qe3.f l0_0 (rd l1 a2) (rd l1 (ji7))).bind fun t555=>(if t555=true then (some t550) else (if a2<(t550.length:Int) then (if (ji7)<(t550.length:Int) then (some ((t550.set (a2:Int).toNat (rd l1 (ji7))).set ((ji7):Int).toNat (rd l1 a2))) else (none)) else (none)))) else (none)) else (none))=some r:=by first|(rw [hji7] at H;exact H)|(simp only [hji7] at H ⊢;exact H)
   (try rw [hji7] at A4)
   have hji7w:(IntKind.i64.wrap (a2+1))=ji7:=(Qcm _).trans hji7
   by_cases c8:0≤(ji7)
   ·
    rw [if_pos c8] at H;have c8b0:=decide_eq_true c8;clear c8
    by_cases c9:(ji7)<(l1.length:Int)
    ·
     rw [if_pos c9] at H;have c9b0:=decide_eq_true c9;clear c9;obtain ⟨t555,A10,H⟩:=bs H;(try dsimp only at H)
     by_cases c11:t555=true
     ·
      subst c11;rw [if_pos rfl] at H;obtain rfl:=Option.some.inj H;go_enter Tryz.func329,Tryz.ntmps329
      try go_wp2_with (first|(refine bE (N:=3) (cs:= #[.slice A0_0 l0_0.length c0_0]) (t:=26) ?_;intro gb549 hg w12 hbox hb;have BK549:=Zk (hbox);have GW549:=Zk ((by rw [hg];exact (Qh (uB HB)):w.heap.size≤gb549));have GE549:=GW549;replace HB:=Zk (Qb (uB HB) hb);clear hb hbox hg)|(refine gA (some 9) Tryz.func273 #[.slice A1 l1.length c1] ?_;(with_reducible refine (Qd9.calls _ _ l1 t550 _ (uD HR1 HB) HC1.out A4.out).mono ?_);rintro e w13 ⟨v551,rfl,ho0,hb⟩;refine ⟨_,rfl,?_⟩;have HO552:=Zk (Kd.R_lower ho0 (Qh (vB HB)));replace BK549:=Zk (Qbg (uK BK549) hb);replace HB:=Zk (Qb (vB HB) hb);(try clear hb ho0)))
      replace HO552:=Zk (Kd.R_drew HO552.out);replace BK549:=Zk (Qc7 BK549.out);replace HB:=Zk (Q2 HB.out);have p553:0≤(a2:Int):=of_decide_eq_true (by first|(with_reducible assumption)|assumption);have q553:a2<(l1.length:Int):=of_decide_eq_true (by first|(with_reducible assumption)|assumption);obtain ⟨ad553,e553,hx553_0⟩:=Kd.at_int HR1.out a2 p553 q553;have hw553_0:=hx553_0;cases e553;replace hx553_0:=(HB.out.cell (World.block_lt_of_cell? w _ hx553_0)).trans hx553_0;replace p553:=eq_true p553;replace q553:=eq_true q553;have p554:0≤((ji7):Int):=of_decide_eq_true (by first|(with_reducible assumption)|assumption);have q554:(ji7)<(l1.length:Int):=of_decide_eq_true (by first|(with_reducible assumption)|assumption);obtain ⟨ad554,e554,hx554_0⟩:=Kd.at_int HR1.out (ji7) p554 q554;have hw554_0:=hx554_0;obtain rfl:ad553=ad554:=(by injection e554)
      replace hx554_0:=(HB.out.cell (World.block_lt_of_cell? w _ hx554_0)).trans hx554_0;replace p554:=eq_true p554;replace q554:=eq_true q554;refine sU (n:=12) (S:=fun w'=>w'.cell? ⟨gb549,0,none⟩=some (.slice A0_0 l0_0.length c0_0)∧w'.cell? (ad553.add (a2).toNat)=some (.int .i64 (rd l1 a2))∧w'.cell? (ad553.add ((ji7)).toNat)=some (.int .i64 (rd l1 (ji7)))) (ds:= []) ⟨(Qcs BK549.out 0).trans rfl,((HB.out.cell (World.block_lt_of_cell? w _ hw553_0)).trans hw553_0),((HB.out.cell (World.block_lt_of_cell? w _ hw554_0)).trans hw554_0)⟩ (fun hHeld=> ?_);refine Qey Qdh.tab2 Qdh.bits2 (fun HT_ HW_=> ?_);generalize w13.drew=w14 at HO552 BK549 HB hx553_0 hx554_0 hHeld ⊢;refine pU 1 11 ?_;refine pU 2 12 ?_;refine pU 3 13 ?_;refine pU 5 15 ?_;refine pU 6 16 ?_;refine pU 7 17 ?_;refine pU 8 18 ?_;refine tX 0 10 hHeld ?_;refine tX 4 14 hHeld ?_;refine tX 9 19 hHeld ?_;refine oU 10 (some 20) fun K hK=> ?_
      refine goes_ Tryz.func349 (by kernel_rfl) rfl #[.agg #[.slice A0_0 l0_0.length c0_0], .int .i64 (rd l1 a2), .int .i64 (rd l1 (ji7))] (by rfl) rfl rfl (by (try simp only [List.map_toArray,List.map_cons,List.map_nil]);first|done|(simp only [hji7];rfl)|rfl|(simp only [List.length_drop,List.length_take];rfl)) ?_
      with_reducible refine (Qe3.calls _ _ l0_0 (rd l1 a2) (rd l1 (ji7)) true _ ?side1 ?side2 A10.out).mono ?_
      (case side1=>repeat (first|exact (Kd.C_below HR0_0.out HB.out)|(with_reducible refine Kd.C_alloc ?_ _)|(with_reducible refine Kd.C_drewN ?_ _)|(with_reducible refine Kd.C_drew ?_)))
      (case side2=>exact HC0_0.out)
      rintro e w15 ⟨rfl,hb⟩;refine ⟨_,rfl,?_⟩;replace HO552:=Zk (Kd.R_below (uR HO552) hb);replace BK549:=Zk (Qbg (uK BK549) hb);replace HB:=Zk (Qb (vB HB) hb)
      skip
      skip
      skip
      skip
      refine hK.out _ _ ⟨(Qcs BK549.out 0).trans rfl,((HB.out.cell (World.block_lt_of_cell? w _ hw553_0)).trans hw553_0),((HB.out.cell (World.block_lt_of_cell? w _ hw554_0)).trans hw554_0)⟩ (fun hHeld=> ?_);clear hK K;refine nU 20 ?_;refine pU 11 21 ?_;refine dU ?_
      try go_wp2
      go_ret
      exact ⟨_,by first|rfl|(simp [Qe,Qf] <;>rfl)|(simp only [←hji7];first|rfl|(simp [Qe,Qf] <;>rfl))|(simp [*,Qe,Qf] <;>rfl),uR HO552,(vB HB)⟩
     ·
      replace c11:=Bool.eq_false_iff.mpr c11;subst c11;rw [if_neg (show ¬ (false=true) by decide)] at H
      by_cases c16:a2<(t550.length:Int)
      ·
       rw [if_pos c16] at H;have c16b0:=decide_eq_true c16;clear c16;obtain ⟨y557,hy557⟩: ∃ y_:List Int,y_=(t550.set (a2:Int).toNat (rd l1 (ji7))):=⟨_,rfl⟩
       replace H:(if (ji7)<(t550.length:Int) then (some (y557.set ((ji7):Int).toNat (rd l1 a2))) else (none))=some r:=by first|(rw [hy557];with_reducible exact H)|(have H2_:=(Option.bind_some _ _).symm.trans H;rw [hy557];with_reducible exact H2_)|(have H2_:=(Option.bind_some _ _).symm.trans H;with_reducible exact H2_)|with_reducible exact H|(rw [hy557];exact H)|exact H
       have Ny557:=Zk hy557;clear hy557
       by_cases c18:(ji7)<(t550.length:Int)
       ·
        rw [if_pos c18] at H;have c18b0:=decide_eq_true c18;clear c18;obtain ⟨y559,hy559⟩: ∃ y_:List Int,y_=(y557.set ((ji7):Int).toNat (rd l1 a2)):=⟨_,rfl⟩
        replace H:(some y559)=some r:=by first|(rw [hy559];with_reducible exact H)|(have H2_:=(Option.bind_some _ _).symm.trans H;rw [hy559];with_reducible exact H2_)|(have H2_:=(Option.bind_some _ _).symm.trans H;with_reducible exact H2_)|with_reducible exact H|(rw [hy559];exact H)|exact H
        have Ny559:=Zk hy559;clear hy559;obtain rfl:=Option.some.inj H;go_enter Tryz.func329,Tryz.ntmps329
        try go_wp2_with (first|(refine bE (N:=3) (cs:= #[.slice A0_0 l0_0.length c0_0]) (t:=26) ?_;intro gb549 hg w20 hbox hb;have BK549:=Zk (hbox);have GW549:=Zk ((by rw [hg];exact (Qh (uB HB)):w.heap.size≤gb549));have GE549:=GW549;replace HB:=Zk (Qb (uB HB) hb);clear hb hbox hg)|(refine gA (some 9) Tryz.func273 #[.slice A1 l1.length c1] ?_;(with_reducible refine (Qd9.calls _ _ l1 t550 _ (uD HR1 HB) HC1.out A4.out).mono ?_);rintro e w21 ⟨v551,rfl,ho0,hb⟩;refine ⟨_,rfl,?_⟩;have HO552:=Zk (Kd.R_lower ho0 (Qh (vB HB)));replace BK549:=Zk (Qbg (uK BK549) hb);replace HB:=Zk (Qb (vB HB) hb);(try clear hb ho0)))
        replace HO552:=Zk (Kd.R_drew HO552.out);replace BK549:=Zk (Qc7 BK549.out);replace HB:=Zk (Q2 HB.out);have p553:0≤(a2:Int):=of_decide_eq_true (by first|(with_reducible assumption)|assumption);have q553:a2<(l1.length:Int):=of_decide_eq_true (by first|(with_reducible assumption)|assumption);obtain ⟨ad553,e553,hx553_0⟩:=Kd.at_int HR1.out a2 p553 q553;have hw553_0:=hx553_0;cases e553;replace hx553_0:=(HB.out.cell (World.block_lt_of_cell? w _ hx553_0)).trans hx553_0;replace p553:=eq_true p553;replace q553:=eq_true q553;have p554:0≤((ji7):Int):=of_decide_eq_true (by first|(with_reducible assumption)|assumption);have q554:(ji7)<(l1.length:Int):=of_decide_eq_true (by first|(with_reducible assumption)|assumption);obtain ⟨ad554,e554,hx554_0⟩:=Kd.at_int HR1.out (ji7) p554 q554;have hw554_0:=hx554_0;obtain rfl:ad553=ad554:=(by injection e554)
        replace hx554_0:=(HB.out.cell (World.block_lt_of_cell? w _ hx554_0)).trans hx554_0;replace p554:=eq_true p554;replace q554:=eq_true q554;refine sU (n:=12) (S:=fun w'=>w'.cell? ⟨gb549,0,none⟩=some (.slice A0_0 l0_0.length c0_0)∧w'.cell? (ad553.add (a2).toNat)=some (.int .i64 (rd l1 a2))∧w'.cell? (ad553.add ((ji7)).toNat)=some (.int .i64 (rd l1 (ji7)))) (ds:= []) ⟨(Qcs BK549.out 0).trans rfl,((HB.out.cell (World.block_lt_of_cell? w _ hw553_0)).trans hw553_0),((HB.out.cell (World.block_lt_of_cell? w _ hw554_0)).trans hw554_0)⟩ (fun hHeld=> ?_);refine Qey Qdh.tab2 Qdh.bits2 (fun HT_ HW_=> ?_);generalize w21.drew=w22 at HO552 BK549 HB hx553_0 hx554_0 hHeld ⊢;refine pU 1 11 ?_;refine pU 2 12 ?_;refine pU 3 13 ?_;refine pU 5 15 ?_;refine pU 6 16 ?_;refine pU 7 17 ?_;refine pU 8 18 ?_;refine tX 0 10 hHeld ?_;refine tX 4 14 hHeld ?_;refine tX 9 19 hHeld ?_;refine oU 10 (some 20) fun K hK=> ?_
        refine goes_ Tryz.func349 (by kernel_rfl) rfl #[.agg #[.slice A0_0 l0_0.length c0_0], .int .i64 (rd l1 a2), .int .i64 (rd l1 (ji7))] (by rfl) rfl rfl (by (try simp only [List.map_toArray,List.map_cons,List.map_nil]);first|done|(simp only [hji7];rfl)|rfl|(simp only [List.length_drop,List.length_take];rfl)) ?_
        with_reducible refine (Qe3.calls _ _ l0_0 (rd l1 a2) (rd l1 (ji7)) false _ ?side1 ?side2 A10.out).mono ?_
        (case side1=>repeat (first|exact (Kd.C_below HR0_0.out HB.out)|(with_reducible refine Kd.C_alloc ?_ _)|(with_reducible refine Kd.C_drewN ?_ _)|(with_reducible refine Kd.C_drew ?_)))
        (case side2=>exact HC0_0.out)
        rintro e w23 ⟨rfl,hb⟩;refine ⟨_,rfl,?_⟩;replace HO552:=Zk (Kd.R_below (uR HO552) hb);replace BK549:=Zk (Qbg (uK BK549) hb);replace HB:=Zk (Qb (vB HB) hb)
        skip
        skip
        skip
        skip
        refine hK.out _ _ ⟨(Qcs BK549.out 0).trans rfl,((HB.out.cell (World.block_lt_of_cell? w _ hw553_0)).trans hw553_0),((HB.out.cell (World.block_lt_of_cell? w _ hw554_0)).trans hw554_0)⟩ (fun hHeld=> ?_);clear hK K;refine nU 20 ?_;refine pU 11 21 ?_;refine dU ?_;have p556:0≤((ji7):Int):=of_decide_eq_true (by first|(with_reducible assumption)|assumption);have q556:(ji7)<(l1.length:Int):=of_decide_eq_true (by first|(with_reducible assumption)|assumption);obtain ⟨ad556,e556,hx556_0⟩:=Kd.at_int HR1.out (ji7) p556 q556;obtain rfl:ad553=ad556:=(by injection e556)
        replace hx556_0:=(HB.out.cell (World.block_lt_of_cell? w _ hx556_0)).trans hx556_0;replace p556:=eq_true p556;replace q556:=eq_true q556;have p17:0≤(a2:Int):=of_decide_eq_true (by first|(with_reducible assumption)|assumption);have q17:(a2:Int)<((t550.length:Int):Int):=of_decide_eq_true (by first|(with_reducible assumption)|assumption);obtain ⟨go17,co17,eo17,gb17,gl17,cl17,HG17⟩:=Kd.R_form HO552.out (by omega)
        (first|cases eo17|(injection eo17 with ea_ en_ ec_;(first|subst ea_|(injection ea_ with ea_;subst ea_));subst ec_;clear en_))
        have GB17:=Zk gb17;have GG17:=Zk HG17;clear gb17 gl17 HG17;obtain ⟨hx17_0,hf17_0⟩:=Kd.R_celln 0 HO552.out (a2:Int) p17 q17;replace p17:=eq_true p17;replace q17:=eq_true q17;obtain ⟨hy24_,hz24_⟩:=Kd.R_celln 0 HO552.out (a2:Int) (of_decide_eq_true (by first|(with_reducible assumption)|assumption)) (of_decide_eq_true (by first|(with_reducible assumption)|assumption));have HP24:=Kd.R_putg HO552.out (a2:Int) (rd l1 (ji7))
        try go_wp2_with (first|((with_reducible refine Qer (t:=3) (p:=29) rfl ?_);refine Qel (t:=3) (p:=29) (v:= ?vo_w25) (w1:=(w23.setCell ⟨go17,(a2:Int).toNat,none⟩ (.int .i64 (rd l1 (ji7))))) ?hg ?ho ?hn ?hr ?_;(case ho=>rfl);(case hg=>rfl);(case hn=>rfl);(case hr=>first|(go_simp;done)|(go_simp;rfl));intro w25 hw;have hg:w23.grownBy w25 (some go17):=(by rw [hw];exact HP24.2);have hp_:Kd.R (Kd.int .i64) 3 w25 w.heap.size (fun _=>True) (.slice (some ⟨go17,0,none⟩) t550.length co17) y557:=(by rw [hw,Ny557.out];exact HP24.1);clear HP24;replace BK549:=Zk (Qc8 (uK BK549) hg (Kd.R_ne HO552.out BK549.out (by decide)));replace HO552:=Zk (hp_);replace HB:=Zk ((by rw [hw];exact Qbt (HB.out) GB17.out:Below w.heap.size w w25));clear hg hw hp_;have p558:0≤(a2:Int):=of_decide_eq_true (by first|(with_reducible assumption)|assumption);have q558:a2<(l1.length:Int):=of_decide_eq_true (by first|(with_reducible assumption)|assumption);obtain ⟨ad558,e558,hx558_0⟩:=Kd.at_int HR1.out a2 p558 q558;obtain rfl:ad553=ad558:=(by injection e558);replace hx558_0:=(HB.out.cell (World.block_lt_of_cell? w _ hx558_0)).trans hx558_0;replace p558:=eq_true p558;replace q558:=eq_true q558;have p19:0≤((ji7):Int):=of_decide_eq_true (by first|(with_reducible assumption)|assumption);have q19:((ji7):Int)<((t550.length:Int):Int):=of_decide_eq_true (by first|(with_reducible assumption)|assumption);obtain ⟨hx19_0,hf19_0⟩:=Kd.R_celln 0 HO552.out ((ji7):Int) p19 q19;replace p19:=eq_true p19;replace q19:=eq_true q19;obtain ⟨hy26_,hz26_⟩:=Kd.R_celln 0 HO552.out ((ji7):Int) (of_decide_eq_true (by first|(with_reducible assumption)|assumption)) (of_decide_eq_true (by first|(with_reducible assumption)|assumption));have HP26:=Kd.R_putg HO552.out ((ji7):Int) (rd l1 a2))|((with_reducible refine Qer (t:=3) (p:=37) rfl ?_);refine Qel (t:=3) (p:=37) (v:= ?vo_w27) (w1:=(w25.setCell ⟨go17,((ji7):Int).toNat,none⟩ (.int .i64 (rd l1 a2)))) ?hg ?ho ?hn ?hr ?_;(case ho=>rfl);(case hg=>rfl);(case hn=>rfl);(case hr=>first|(go_simp;done)|(go_simp;rfl));intro w27 hw;have hg:w25.grownBy w27 (some go17):=(by rw [hw];exact HP26.2);have hp_:Kd.R (Kd.int .i64) 3 w27 w.heap.size (fun _=>True) (.slice (some ⟨go17,0,none⟩) t550.length co17) y559:=(by rw [hw,Ny559.out];exact HP26.1);clear HP26;replace BK549:=Zk (Qc8 (uK BK549) hg (Kd.R_ne HO552.out BK549.out (by decide)));replace HO552:=Zk (hp_);replace HB:=Zk ((by rw [hw];exact Qbt (HB.out) GB17.out:Below w.heap.size w w27));clear hg hw hp_))
        go_ret
        exact ⟨_,by first|rfl|(simp [Qe,Qf] <;>rfl)|(simp only [←hji7];first|rfl|(simp [Qe,Qf] <;>rfl))|(simp [*,Qe,Qf] <;>rfl),uR HO552,(vB HB)⟩
       ·
        rw [if_neg c18] at H;exact absurd H (by simp)
      ·
       rw [if_neg c16] at H;exact absurd H (by simp)
    ·
     rw [if_neg c9] at H;exact absurd H (by simp)
   ·
    rw [if_neg c8] at H;exact absurd H (by simp)
  ·
   rw [if_neg c6] at H;exact absurd H (by simp)
 ·
  rw [if_neg c5] at H;exact absurd H (by simp)
def Qc4.l0:Nat→List Int→Int→Int→List Int→Option (List Int)
 |0,_,_,_,_=>none
 |k+1,x1,x2,x7,x561000=>if x7<x2 then ((Qdh.f x561000 x1 x7).bind fun t561=>(Qc4.l0 k t561 x2 (wrap64 (x7+1)) x561000)) else (some x1)
def Qc4.f (k:Nat) (l0_0:List Int) (l1:List Int) (a2:Int):Option (List Int):=Qc4.l0 k l1 a2 0 l0_0
theorem Qc4.mono_l: ∀ k,(∀ y0 y1 y2 y3,LeO (Qc4.l0 k y0 y1 y2 y3) (Qc4.l0 (k+1) y0 y1 y2 y3))
 |0=>fun _ _ _ _ r h=>by simp [Qc4.l0] at h
 |k+1=>by
  have ih0:=Qc4.mono_l k
  ·
   intro y0 y1 y2 y3;unfold Qc4.l0
   repeat' first
   |(with_reducible exact ih0 _ _ _ _)
   |(with_reducible exact LeO.refl _)
   |(with_reducible exact LeO.none _)
   |(with_reducible refine LeO.ite ?_ ?_)
   |(with_reducible refine LeO.bind ?_ (fun _=> ?_))
   |exact ih0 _ _ _ _
   |exact LeO.none _
   |refine LeO.ite ?_ ?_
   |refine LeO.bind ?_ (fun _=> ?_)
theorem Qc4.mono: ∀ a0 a1 a2 k,LeO (Qc4.f k a0 a1 a2) (Qc4.f (k+1) a0 a1 a2):=by
 intro a0 a1 a2 k;have ih0:=Qc4.mono_l k;unfold Qc4.f
 repeat' (with_reducible first|apply ih0|exact LeO.refl _|exact LeO.none _|refine LeO.ite ?_ ?_|refine LeO.bind ?_ (fun _=> ?_))
set_option maxHeartbeats 8000000 in
set_option maxRecDepth 100000 in
theorem Qc4.calls (k:Nat) (A0_0:Option Addr) (c0_0:Nat) (l0_0:List Int) (P1_:Nat→Prop) (A1:Option Addr) (c1:Nat) (l1:List Int) (a2:Int) (r:List Int) (w:World) (hr0_0:Kd.C (Kd.int .i64) w A0_0 l0_0.length l0_0) (hc0_0:l0_0.length≤c0_0) (hs1:Kd.V (Kd.int .i64) 3 w w.heap.size (fun k_=>P1_ k_) (.slice A1 l1.length c1) l1) (h:Qc4.f k l0_0 l1 a2=some r):
 Calls Tryz.prog 328 #[.agg #[.slice A0_0 l0_0.length c0_0], .slice A1 l1.length c1, .int .i64 a2] w fun e w'=> ∃ v0_:Value,e= .returned (v0_)∧Kd.V (Kd.int .i64) 3 w' w.heap.size (fun k_=>(P1_ k_∨w.heap.size≤k_)) v0_ r∧Below w.heap.size w w':=by
 have hu26:=Tryz.underlying26;have HR0_0:=Zk hr0_0;have HC0_0:=Zk hc0_0;clear hr0_0 hc0_0;have HO1:=Zk (show Kd.V (Kd.int .i64) 3 w w.heap.size (fun k_=>(P1_ k_∨w.heap.size≤k_)) (.slice A1 l1.length c1) l1 from Kd.V_mono hs1 (fun k_ hk=> .inl hk));have HB:=Zk (Below.refl w.heap.size w);have H:(Qc4.l0 k l1 a2 0 l0_0)=some r:=h;clear h;have H':=Zk H;clear H;go_enter Tryz.func328,Tryz.ntmps328;go_wp2_with (first|(refine bE (N:=3) (cs:= #[.slice A0_0 l0_0.length c0_0]) (t:=26) ?_;intro gb560 hg w4 hbox hb;replace HO1:=Zk (Kd.V_below (Kd.V_elderB (by (with_reducible repeat (first|apply Kd.V_alloc|apply Kd.V_drewN|apply Kd.V_drew));exact HO1.out) gb560 (Nat.le_of_eq hg.symm)) hb);have BK560:=Zk (hbox);have GW560:=Zk ((by rw [hg];exact (Qh (uB HB)):w.heap.size≤gb560));have GE560:=GW560;replace HB:=Zk (Qb (uB HB) hb);clear hb hbox hg))
 go_loopg [1,7] k (fun kq v1 v7 w'=> ∃ (x1_1:List Int) (x7_1:Int),v7= .int .i64 x7_1∧Z0 (Qc4.l0 kq x1_1 a2 x7_1 l0_0=some r)∧Z0 (kq≤k)∧Z0 (Kd.V (Kd.int .i64) 3 w' w.heap.size (fun k_=>(P1_ k_∨w.heap.size≤k_)∧k_≠gb560) v1 x1_1)∧Z0 (w'.heap[gb560]? =some (.cells #[(.slice A0_0 l0_0.length c0_0)] 26 (0,0)))∧Z0 (Below w.heap.size w w'))
 case atStart=>exact ⟨(l1),(0),(by first|rfl|(simp;done)|(simp [*];done)),H',⟨Nat.le_refl _⟩,⟨by (with_reducible repeat (first|apply Kd.V_alloc|apply Kd.V_drewN|apply Kd.V_drew));exact HO1.out⟩,⟨uK BK560⟩,⟨(vB HB)⟩⟩
 case round=>
  clear H'
  skip
  obtain ⟨x1_1,x7_1,rfl,HA,HK1,HO_1,BK560,HB⟩:=hrel;cases gk with
  |zero=>exact absurd HA.out (by simp [Qc4.l0])
  |succ k1=>
   have H:=HA.out;clear HA;simp only [Qc4.l0] at H
   by_cases c5:x7_1<a2
   ·
    rw [if_pos c5] at H;have c5b0:=decide_eq_true c5;clear c5;obtain ⟨t561,A6,H⟩:=bs H;(try dsimp only at H)
    have H':=Zk H;clear H;have hcz7_0:=bC BK560;have hfz7_0:=Q6 BK560.out 0;obtain ⟨Ao8,co8,eo8⟩:=Kd.V_slice HO_1.out;subst eo8;go_wp2_with (first|(refine gA (some 16) Tryz.func329 #[.agg #[.slice A0_0 l0_0.length c0_0], .slice Ao8 x1_1.length co8, .int .i64 x7_1] ?_;(with_reducible refine (Qdh.calls _ _ l0_0 _ _ x1_1 x7_1 t561 _ (uD HR0_0 HB) HC0_0.out ?side3 ?side4 A6.out).mono ?_);(case side3=>repeat (first|exact (Kd.V_reads' HO_1.out).2.2|(with_reducible refine Kd.C_alloc ?_ _)|(with_reducible refine Kd.C_drewN ?_ _)|(with_reducible refine Kd.C_drew ?_)));(case side4=>exact (Kd.V_reads' HO_1.out).2.1);rintro e w9 ⟨v562,rfl,ho0,hb⟩;refine ⟨_,rfl,?_⟩;replace HO_1:=Zk (Kd.V_elder' (by (with_reducible repeat (first|apply Kd.V_alloc|apply Kd.V_drewN|apply Kd.V_drew));exact HO_1.out) (Kd.R_base ho0) hb);have HO563:=Zk (Kd.R_lower (Kd.R_newM (M:=fun k_=>(w.heap.size≤k_)) ho0 (Qh (vB HB)) (fun k_ h_=>h_)) (Qh (vB HB)));replace BK560:=Zk (Qbg (uK BK560) hb);replace HB:=Zk (Qb (vB HB) hb);(try clear hb ho0)));go_roundg k1
    case measure=>have:=HK1.out;omega
    case rel=>exact ⟨(t561),(wrap64 (x7_1+1)),(by first|rfl|(simp;done)|(simp [*];done)),H',⟨by have:=HK1.out;omega⟩,⟨Kd.V_mono (Kd.R_V (ok:=fun k_=>w.heap.size≤k_∧k_≠gb560) (by (with_reducible repeat (first|apply Kd.R_alloc|apply Kd.R_drewN|apply Kd.R_drew));exact Kd.R_mono (Kd.R_types HO563.out BK560.out (by decide)) (fun _ hk=>⟨hk.1.1,hk.2⟩))) (fun k_ hk=>by first|exact ⟨(.inr (hk.1)),hk.2⟩|exact (.inr (hk)))⟩,⟨uK BK560⟩,⟨(vB HB)⟩⟩
   ·
    rw [if_neg c5] at H;have c5b0:=decide_eq_false c5;clear c5;obtain rfl:=Option.some.inj H;go_wp2
    go_ret
    exact ⟨_,by first|rfl|(simp [Qe,Qf] <;>rfl)|(simp [*,Qe,Qf] <;>rfl),by (with_reducible repeat (first|apply Kd.V_alloc|apply Kd.V_drewN|apply Kd.V_drew));exact Kd.V_mono HO_1.out (fun _ hk=>hk.1),(vB HB)⟩
mutual
def Q8.l0:Nat→List Int→Int→List Int→Option (List Int)
 |0,_,_,_=>none
 |k+1,x1,x2,x565000=>if x2>0 then ((Qc4.f k x565000 x1 (wrap64 ((x1.length:Int) - 1))).bind fun t565=>(Q8.l0 k t565 (wrap64 (x2 - 1)) x565000)) else (Q8.l1 k x1 x2 x565000)
def Q8.l1:Nat→List Int→Int→List Int→Option (List Int)
 |0,_,_,_=>none
 |k+1,x1,x2,x565000=>if x2<0 then (Q8.l2 k x1 x2 (wrap64 ((x1.length:Int) - 2)) x565000) else ((Qd9.f x1).bind fun t568=>(some t568))
def Q8.l2:Nat→List Int→Int→Int→List Int→Option (List Int)
 |0,_,_,_,_=>none
 |k+1,x1,x2,x7,x565000=>if x7 ≥ 0 then ((Qdh.f x565000 x1 x7).bind fun t571=>(Q8.l2 k t571 x2 (wrap64 (x7 - 1)) x565000)) else (Q8.l1 k x1 (wrap64 (x2+1)) x565000)
end
def Q8.f (k:Nat) (l0_0:List Int) (l1:List Int) (a2:Int):Option (List Int):=Q8.l0 k l1 a2 l0_0
theorem Q8.mono_l: ∀ k,(∀ y0 y1 y2,LeO (Q8.l0 k y0 y1 y2) (Q8.l0 (k+1) y0 y1 y2))∧(∀ y0 y1 y2,LeO (Q8.l1 k y0 y1 y2) (Q8.l1 (k+1) y0 y1 y2))∧(∀ y0 y1 y2 y3,LeO (Q8.l2 k y0 y1 y2 y3) (Q8.l2 (k+1) y0 y1 y2 y3))
 |0=>⟨fun _ _ _ r h=>by simp [Q8.l0] at h,fun _ _ _ r h=>by simp [Q8.l1] at h,fun _ _ _ _ r h=>by simp [Q8.l2] at h⟩
 |k+1=>by
  obtain ⟨ih0,ih1,ih2⟩:=Q8.mono_l k;refine ⟨?_,?_,?_⟩
  all_goals
   intros
   first|unfold Q8.l0|unfold Q8.l1|unfold Q8.l2
   repeat' (with_reducible first|apply ih0|apply ih1|apply ih2|apply Qc4.mono|exact LeO.refl _|exact LeO.none _|refine LeO.ite ?_ ?_|refine LeO.bind ?_ (fun _=> ?_))
theorem Q8.mono: ∀ a0 a1 a2 k,LeO (Q8.f k a0 a1 a2) (Q8.f (k+1) a0 a1 a2):=by
 intro a0 a1 a2 k;obtain ⟨ih0,ih1,ih2⟩:=Q8.mono_l k;unfold Q8.f
 repeat' (with_reducible first|apply ih0|apply ih1|apply ih2|apply Qc4.mono|exact LeO.refl _|exact LeO.none _|refine LeO.ite ?_ ?_|refine LeO.bind ?_ (fun _=> ?_))
set_option maxHeartbeats 8000000 in
set_option maxRecDepth 100000 in
theorem Q8.calls (k:Nat) (A0_0:Option Addr) (c0_0:Nat) (l0_0:List Int) (P1_:Nat→Prop) (A1:Option Addr) (c1:Nat) (l1:List Int) (a2:Int) (r:List Int) (w:World) (hr0_0:Kd.C (Kd.int .i64) w A0_0 l0_0.length l0_0) (hc0_0:l0_0.length≤c0_0) (hs1:Kd.V (Kd.int .i64) 3 w w.heap.size (fun k_=>P1_ k_) (.slice A1 l1.length c1) l1) (h:Q8.f k l0_0 l1 a2=some r):
 Calls Tryz.prog 271 #[.agg #[.slice A0_0 l0_0.length c0_0], .slice A1 l1.length c1, .int .i64 a2] w fun e w'=> ∃ v0_:Value,e= .returned (v0_)∧Kd.R (Kd.int .i64) 3 w' w.heap.size (fun k_=>(w.heap.size≤k_)) v0_ r∧Below w.heap.size w w':=by
 have hu26:=Tryz.underlying26;have HR0_0:=Zk hr0_0;have HC0_0:=Zk hc0_0;clear hr0_0 hc0_0;have HO1:=Zk (show Kd.V (Kd.int .i64) 3 w w.heap.size (fun k_=>(P1_ k_∨w.heap.size≤k_)) (.slice A1 l1.length c1) l1 from Kd.V_mono hs1 (fun k_ hk=> .inl hk));have HB:=Zk (Below.refl w.heap.size w);have H:(Q8.l0 k l1 a2 l0_0)=some r:=h;clear h;have H':=Zk H;clear H;go_enter Tryz.func271,Tryz.ntmps271;go_wp2_with (first|(refine bE (N:=3) (cs:= #[.slice A0_0 l0_0.length c0_0]) (t:=26) ?_;intro gb564 hg w4 hbox hb;replace HO1:=Zk (Kd.V_below (Kd.V_elderB (by (with_reducible repeat (first|apply Kd.V_alloc|apply Kd.V_drewN|apply Kd.V_drew));exact HO1.out) gb564 (Nat.le_of_eq hg.symm)) hb);have BK564:=Zk (hbox);have GW564:=Zk ((by rw [hg];exact (Qh (uB HB)):w.heap.size≤gb564));have GE564:=GW564;replace HB:=Zk (Qb (uB HB) hb);clear hb hbox hg))
 go_loopg [1,2] k (fun kq v1 v2 w'=> ∃ (x1_1:List Int) (x2_1:Int),v2= .int .i64 x2_1∧Z0 (Q8.l0 kq x1_1 x2_1 l0_0=some r)∧Z0 (kq≤k)∧Z0 (Kd.V (Kd.int .i64) 3 w' w.heap.size (fun k_=>(P1_ k_∨w.heap.size≤k_)∧k_≠gb564) v1 x1_1)∧Z0 (w'.heap[gb564]? =some (.cells #[(.slice A0_0 l0_0.length c0_0)] 26 (0,0)))∧Z0 (Below w.heap.size w w'))
 case atStart=>exact ⟨(l1),(a2),(by first|rfl|(simp;done)|(simp [*];done)),H',⟨Nat.le_refl _⟩,⟨by (with_reducible repeat (first|apply Kd.V_alloc|apply Kd.V_drewN|apply Kd.V_drew));exact HO1.out⟩,⟨uK BK564⟩,⟨(vB HB)⟩⟩
 case round=>
  clear H'
  skip
  obtain ⟨x1_1,x2_1,rfl,HA,HK1,HO_1,BK564,HB⟩:=hrel;cases gk with
  |zero=>exact absurd HA.out (by simp [Q8.l0])
  |succ k1=>
   have H:=HA.out;clear HA;simp only [Q8.l0] at H
   by_cases c5:x2_1>0
   ·
    rw [if_pos c5] at H;have c5b0:=decide_eq_true c5;clear c5;obtain ⟨t565,A6,H⟩:=bs H;(try dsimp only at H)
    have H':=Zk H;clear H;have hcz7_0:=bC BK564;have hfz7_0:=Q6 BK564.out 0;obtain ⟨Ao8,co8,eo8⟩:=Kd.V_slice HO_1.out;subst eo8;go_wp2_with (first|(refine gA (some 17) Tryz.func328 #[.agg #[.slice A0_0 l0_0.length c0_0], .slice Ao8 x1_1.length co8, .int .i64 (wrap64 ((x1_1.length:Int) - 1))] ?_;(with_reducible refine (Qc4.calls k1 _ _ l0_0 (fun k_=>((P1_ k_∨w.heap.size≤k_)∧k_≠gb564)) _ _ x1_1 (wrap64 ((x1_1.length:Int) - 1)) t565 _ (uD HR0_0 HB) HC0_0.out HO_1.out A6.out).mono ?_);rintro e w9 ⟨v566,rfl,ho0,hb⟩;refine ⟨_,rfl,?_⟩;replace HO_1:=Zk (Kd.V_below (by (with_reducible repeat (first|apply Kd.V_alloc|apply Kd.V_drewN|apply Kd.V_drew));exact HO_1.out) hb);have HO567:=Zk (Kd.V_lower (Kd.V_mono (ok':=fun k_=>(P1_ k_∨w.heap.size≤k_)∧k_≠gb564) ho0 (fun k_ hk_=>⟨Or.elim hk_ (fun hs_=>hs_.1) (fun hn_=>(.inr (Nat.le_trans (Qh (vB HB)) hn_))),Or.elim hk_ (fun hs_=>hs_.2) (fun hn_=>(Kd.freshB (uK BK564) k_ hn_))⟩)) (Qh (vB HB)));replace BK564:=Zk (Qbg (uK BK564) hb);replace HB:=Zk (Qb (vB HB) hb);(try clear hb ho0)));go_roundg k1
    case measure=>have:=HK1.out;omega
    case rel=>exact ⟨(t565),(wrap64 (x2_1 - 1)),(by first|rfl|(simp;done)|(simp [*];done)),H',⟨by have:=HK1.out;omega⟩,⟨by (with_reducible repeat (first|apply Kd.V_alloc|apply Kd.V_drewN|apply Kd.V_drew));exact HO567.out⟩,⟨uK BK564⟩,⟨(vB HB)⟩⟩
   ·
    rw [if_neg c5] at H;have c5b0:=decide_eq_false c5;clear c5;have H':=Zk H;clear H;go_wp2
    go_loopg [1,2] k1 (fun kq v1 v2 w'=> ∃ (x1_2:List Int) (x2_2:Int),v2= .int .i64 x2_2∧Z0 (Q8.l1 kq x1_2 x2_2 l0_0=some r)∧Z0 (kq≤k1)∧Z0 (Kd.V (Kd.int .i64) 3 w' w.heap.size (fun k_=>(P1_ k_∨w.heap.size≤k_)∧k_≠gb564) v1 x1_2)∧Z0 (w'.heap[gb564]? =some (.cells #[(.slice A0_0 l0_0.length c0_0)] 26 (0,0)))∧Z0 (Below w.heap.size w w'))
    case atStart=>exact ⟨(x1_1),(x2_1),(by first|rfl|(simp;done)|(simp [*];done)),H',⟨Nat.le_refl _⟩,⟨by (with_reducible repeat (first|apply Kd.V_alloc|apply Kd.V_drewN|apply Kd.V_drew));exact HO_1.out⟩,⟨uK BK564⟩,⟨(vB HB)⟩⟩
    case round=>
     clear H'
     try clear c5b0
     obtain ⟨x1_2,x2_2,rfl,HA,HK2,HO_1,BK564,HB⟩:=hrel;cases gk with
     |zero=>exact absurd HA.out (by simp [Q8.l1])
     |succ k2=>
      have H:=HA.out;clear HA;simp only [Q8.l1] at H
      by_cases c10:x2_2<0
      ·
       rw [if_pos c10] at H;have c10b0:=decide_eq_true c10;clear c10;have H':=Zk H;clear H;obtain ⟨Ao11,co11,eo11⟩:=Kd.V_slice HO_1.out;subst eo11;go_wp2
       go_loopg [1,7] k2 (fun kq v1 v7 w'=> ∃ (x1_3:List Int) (x7_3:Int),v7= .int .i64 x7_3∧Z0 (Q8.l2 kq x1_3 x2_2 x7_3 l0_0=some r)∧Z0 (kq≤k2)∧Z0 (Kd.V (Kd.int .i64) 3 w' w.heap.size (fun k_=>(P1_ k_∨w.heap.size≤k_)∧k_≠gb564) v1 x1_3)∧Z0 (w'.heap[gb564]? =some (.cells #[(.slice A0_0 l0_0.length c0_0)] 26 (0,0)))∧Z0 (Below w.heap.size w w'))
       case atStart=>exact ⟨(x1_2),(wrap64 ((x1_2.length:Int) - 2)),(by first|rfl|(simp;done)|(simp [*];done)),H',⟨Nat.le_refl _⟩,⟨by (with_reducible repeat (first|apply Kd.V_alloc|apply Kd.V_drewN|apply Kd.V_drew));exact HO_1.out⟩,⟨uK BK564⟩,⟨(vB HB)⟩⟩
       case round=>
        clear H'
        try clear c10b0
        obtain ⟨x1_3,x7_3,rfl,HA,HK3,HO_1,BK564,HB⟩:=hrel;cases gk with
        |zero=>exact absurd HA.out (by simp [Q8.l2])
        |succ k3=>
         have H:=HA.out;clear HA;simp only [Q8.l2] at H
         by_cases c12:x7_3 ≥ 0
         ·
          rw [if_pos c12] at H;have c12b0:=decide_eq_true c12;clear c12;obtain ⟨t571,A13,H⟩:=bs H;(try dsimp only at H)
          have H':=Zk H;clear H;have hcz14_0:=bC BK564;have hfz14_0:=Q6 BK564.out 0;obtain ⟨Ao15,co15,eo15⟩:=Kd.V_slice HO_1.out;subst eo15;go_wp2_with (first|(refine gA (some 32) Tryz.func329 #[.agg #[.slice A0_0 l0_0.length c0_0], .slice Ao15 x1_3.length co15, .int .i64 x7_3] ?_;(with_reducible refine (Qdh.calls _ _ l0_0 _ _ x1_3 x7_3 t571 _ (uD HR0_0 HB) HC0_0.out ?side3 ?side4 A13.out).mono ?_);(case side3=>repeat (first|exact (Kd.V_reads' HO_1.out).2.2|(with_reducible refine Kd.C_alloc ?_ _)|(with_reducible refine Kd.C_drewN ?_ _)|(with_reducible refine Kd.C_drew ?_)));(case side4=>exact (Kd.V_reads' HO_1.out).2.1);rintro e w16 ⟨v572,rfl,ho0,hb⟩;refine ⟨_,rfl,?_⟩;replace HO_1:=Zk (Kd.V_elder' (by (with_reducible repeat (first|apply Kd.V_alloc|apply Kd.V_drewN|apply Kd.V_drew));exact HO_1.out) (Kd.R_base ho0) hb);have HO573:=Zk (Kd.R_lower (Kd.R_newM (M:=fun k_=>(w.heap.size≤k_)) ho0 (Qh (vB HB)) (fun k_ h_=>h_)) (Qh (vB HB)));replace BK564:=Zk (Qbg (uK BK564) hb);replace HB:=Zk (Qb (vB HB) hb);(try clear hb ho0)));go_roundg k3
          case measure=>have:=HK1.out;have:=HK2.out;have:=HK3.out;omega
          case rel=>exact ⟨(t571),(wrap64 (x7_3 - 1)),(by first|rfl|(simp;done)|(simp [*];done)),H',⟨by have:=HK1.out;have:=HK2.out;have:=HK3.out;omega⟩,⟨Kd.V_mono (Kd.R_V (ok:=fun k_=>w.heap.size≤k_∧k_≠gb564) (by (with_reducible repeat (first|apply Kd.R_alloc|apply Kd.R_drewN|apply Kd.R_drew));exact Kd.R_mono (Kd.R_types HO573.out BK564.out (by decide)) (fun _ hk=>⟨hk.1.1,hk.2⟩))) (fun k_ hk=>by first|exact ⟨(.inr (hk.1)),hk.2⟩|exact (.inr (hk)))⟩,⟨uK BK564⟩,⟨(vB HB)⟩⟩
         ·
          rw [if_neg c12] at H;have c12b0:=decide_eq_false c12;clear c12;have H':=Zk H;clear H;go_wp2;go_roundg k3
          case measure=>have:=HK1.out;have:=HK2.out;have:=HK3.out;omega
          case rel=>exact ⟨(x1_3),(wrap64 (x2_2+1)),(by first|rfl|(simp;done)|(simp [*];done)),H',⟨by have:=HK1.out;have:=HK2.out;have:=HK3.out;omega⟩,⟨by (with_reducible repeat (first|apply Kd.V_alloc|apply Kd.V_drewN|apply Kd.V_drew));exact HO_1.out⟩,⟨uK BK564⟩,⟨(vB HB)⟩⟩
      ·
       rw [if_neg c10] at H;have c10b0:=decide_eq_false c10;clear c10;obtain ⟨t568,A17,H⟩:=bs H;(try dsimp only at H)
       obtain rfl:=Option.some.inj H;obtain ⟨Ao18,co18,eo18⟩:=Kd.V_slice HO_1.out;subst eo18;go_wp2_with (first|(refine gA (some 34) Tryz.func273 #[.slice Ao18 x1_2.length co18] ?_;(with_reducible refine (Qd9.calls _ _ x1_2 t568 _ ?side1 ?side2 A17.out).mono ?_);(case side1=>repeat (first|exact (Kd.V_reads' HO_1.out).2.2|(with_reducible refine Kd.C_alloc ?_ _)|(with_reducible refine Kd.C_drewN ?_ _)|(with_reducible refine Kd.C_drew ?_)));(case side2=>exact (Kd.V_reads' HO_1.out).2.1);rintro e w19 ⟨v569,rfl,ho0,hb⟩;refine ⟨_,rfl,?_⟩;replace HO_1:=Zk (Kd.V_elder' (by (with_reducible repeat (first|apply Kd.V_alloc|apply Kd.V_drewN|apply Kd.V_drew));exact HO_1.out) (Kd.R_base ho0) hb);have HO570:=Zk (Kd.R_lower (Kd.R_newM (M:=fun k_=>(w.heap.size≤k_)) ho0 (Qh (vB HB)) (fun k_ h_=>h_)) (Qh (vB HB)));replace BK564:=Zk (Qbg (uK BK564) hb);replace HB:=Zk (Qb (vB HB) hb);(try clear hb ho0)))
       go_ret
       exact ⟨_,by first|rfl|(simp [Qe,Qf] <;>rfl)|(simp [*,Qe,Qf] <;>rfl),Kd.R_mono (uR HO570) (fun _ hk=>hk.1),(vB HB)⟩
mutual
def Qbm.l0:Nat→List Int→Int→Int→List Int→Option (Bool)
 |0,_,_,_,_=>none
 |k+1,x14,x15,x16,x575000=>if x16<x15 then (if 0≤x16 then (if x16<(x14.length:Int) then ((Qbz.f (rd x14 x16) 0 (wrap64 ((shl .i64 1 x16) - 1))).bind fun t577=>(if t577=true then (Qbm.l1 k x16 (rd x14 x16) 0 x14 x15 x16 x575000) else (some false))) else (none)) else (none)) else (some true)
def Qbm.l1:Nat→Int→Int→Int→List Int→Int→Int→List Int→Option (Bool)
 |0,_,_,_,_,_,_,_=>none
 |k+1,x4,x5,x6,x14,x15,x16,x575000=>if x6<x4 then (if 0≤x6 then (if (Int.tmod (shr .i64 x5 x6) 2)=1 then (if x6<(x575000.length:Int) then (if (Go.bits .andNot .i64 (rd x575000 x6) x5)=0 then (Qbm.l1 k x4 x5 (wrap64 (x6+1)) x14 x15 x16 x575000) else (some false)) else (none)) else (Qbm.l1 k x4 x5 (wrap64 (x6+1)) x14 x15 x16 x575000)) else (none)) else (Qbm.l0 k x14 x15 (wrap64 (x16+1)) x575000)
end
def Qbm.f (k:Nat) (l0_0:List Int):Option (Bool):=(Qbz.f (l0_0.length:Int) 1 10).bind fun t575=>(if t575=true then (Qbm.l0 k l0_0 (l0_0.length:Int) 0 l0_0) else (some false))
theorem Qbm.mono_l: ∀ k,(∀ y0 y1 y2 y3,LeO (Qbm.l0 k y0 y1 y2 y3) (Qbm.l0 (k+1) y0 y1 y2 y3))∧(∀ y0 y1 y2 y3 y4 y5 y6,LeO (Qbm.l1 k y0 y1 y2 y3 y4 y5 y6) (Qbm.l1 (k+1) y0 y1 y2 y3 y4 y5 y6))
 |0=>⟨fun _ _ _ _ r h=>by simp [Qbm.l0] at h,fun _ _ _ _ _ _ _ r h=>by simp [Qbm.l1] at h⟩
 |k+1=>by
  obtain ⟨ih0,ih1⟩:=Qbm.mono_l k;refine ⟨?_,?_⟩
  all_goals
   intros
   first|unfold Qbm.l0|unfold Qbm.l1
   repeat' (with_reducible first|apply ih0|apply ih1|exact LeO.refl _|exact LeO.none _|refine LeO.ite ?_ ?_|refine LeO.bind ?_ (fun _=> ?_))
theorem Qbm.mono: ∀ a0 k,LeO (Qbm.f k a0) (Qbm.f (k+1) a0):=by
 intro a0 k;obtain ⟨ih0,ih1⟩:=Qbm.mono_l k;unfold Qbm.f
 repeat' (with_reducible first|apply ih0|apply ih1|exact LeO.refl _|exact LeO.none _|refine LeO.ite ?_ ?_|refine LeO.bind ?_ (fun _=> ?_))
set_option maxHeartbeats 8000000 in
set_option maxRecDepth 100000 in
theorem Qbm.calls (k:Nat) (A0_0:Option Addr) (c0_0:Nat) (l0_0:List Int) (r:Bool) (w:World) (hr0_0:Kd.C (Kd.int .i64) w A0_0 l0_0.length l0_0) (hc0_0:l0_0.length≤c0_0) (h:Qbm.f k l0_0=some r):
 Calls Tryz.prog 183 #[.agg #[.slice A0_0 l0_0.length c0_0]] w fun e w'=>e= .returned (.bool r)∧Below w.heap.size w w':=by
 have hu26:=Tryz.underlying26;have HR0_0:=Zk hr0_0;have HC0_0:=Zk hc0_0;clear hr0_0 hc0_0;have HB:=Zk (Below.refl w.heap.size w);have H:((Qbz.f (l0_0.length:Int) 1 10).bind fun t575=>(if t575=true then (Qbm.l0 k l0_0 (l0_0.length:Int) 0 l0_0) else (some false)))=some r:=h;clear h;obtain ⟨t575,A2,H⟩:=bs H;(try dsimp only at H)
 by_cases c3:t575=true
 ·
  subst c3;rw [if_pos rfl] at H;have H':=Zk H;clear H;go_enter Tryz.func183,Tryz.ntmps183;go_wp2_with (first|(refine bE (N:=1) (cs:= #[.slice A0_0 l0_0.length c0_0]) (t:=26) ?_;intro gb574 hg w4 hbox hb;have BK574:=Zk (hbox);have GW574:=Zk ((by rw [hg];exact (Qh (uB HB)):w.heap.size≤gb574));have GE574:=GW574;replace HB:=Zk (Qb (uB HB) hb);clear hb hbox hg;have hcz5_0:=bC BK574;have hfz5_0:=Q6 BK574.out 0)|(refine gA (some 11) Tryz.func192 #[.int .i64 (l0_0.length:Int), .int .i64 1, .int .i64 10] ?_;(with_reducible refine (Qbz.calls (l0_0.length:Int) 1 10 true _ A2.out).mono ?_);rintro e w' ⟨rfl,⟨nd,rfl⟩⟩;refine ⟨_,rfl,?_⟩))
  go_loopg [16] k (fun kq v16 w'=> ∃ (x16_1:Int),v16= .int .i64 x16_1∧Z0 (Qbm.l0 kq l0_0 (l0_0.length:Int) x16_1 l0_0=some r)∧Z0 (kq≤k)∧Z0 (w'.heap[gb574]? =some (.cells #[(.slice A0_0 l0_0.length c0_0)] 26 (0,0)))∧Z0 (Below w.heap.size w w'))
  case atStart=>exact ⟨(0),(by first|rfl|(simp;done)|(simp [*];done)),H',⟨Nat.le_refl _⟩,⟨uK BK574⟩,⟨(vB HB)⟩⟩
  case round=>
   clear H'
   try clear hcz5_0 hfz5_0
   obtain ⟨x16_1,rfl,HA,HK1,BK574,HB⟩:=hrel;cases gk with
   |zero=>exact absurd HA.out (by simp [Qbm.l0])
   |succ k1=>
    have H:=HA.out;clear HA;simp only [Qbm.l0] at H
    by_cases c6:x16_1<(l0_0.length:Int)
    ·
     rw [if_pos c6] at H;have c6b0:=decide_eq_true c6;clear c6
     by_cases c7:0≤x16_1
     ·
      rw [if_pos c7] at H;have c7b0:=decide_eq_true c7;clear c7
      by_cases c8:x16_1<(l0_0.length:Int)
      ·
       rw [if_pos c8] at H;have c8b0:=decide_eq_true c8;clear c8;have c9b0:=eq_true (of_decide_eq_true (by first|(with_reducible assumption)|assumption):0≤x16_1);obtain ⟨ji10,hji10⟩: ∃ j_:Int,(shl .i64 1 x16_1)=j_:=⟨_,rfl⟩
       replace H:((Qbz.f (rd l0_0 x16_1) 0 (wrap64 ((ji10) - 1))).bind fun t577=>(if t577=true then (Qbm.l1 k1 x16_1 (rd l0_0 x16_1) 0 l0_0 (l0_0.length:Int) x16_1 l0_0) else (some false)))=some r:=by first|(rw [hji10] at H;exact H)|(simp only [hji10] at H ⊢;exact H)
       have hji10_:(IntKind.i64.wrap (1*2 ^ min x16_1.toNat 64))=ji10:=hji10;have hji10z:x16_1≤64→(IntKind.i64.wrap (1*2 ^ x16_1.toNat))=ji10:=Qea hji10;have hji10u:(IntKind.i64.wrap (2 ^ min x16_1.toNat 64))=ji10:=by have h_:=hji10_;rw [Int.one_mul] at h_;exact h_
       have hji10v:x16_1≤64→(IntKind.i64.wrap (2 ^ x16_1.toNat))=ji10:=fun hle_=>by have h_:=hji10z hle_;rw [Int.one_mul] at h_;exact h_
       have hji10y:(wrap64 (1*2 ^ min x16_1.toNat 64))=ji10:=(Qcm _).symm.trans hji10_;have hji10x:x16_1≤64→(wrap64 (1*2 ^ x16_1.toNat))=ji10:=fun h_=>(Qcm _).symm.trans (hji10z h_)
       obtain ⟨t577,A11,H⟩:=bs H;(try dsimp only at H)
       by_cases c12:t577=true
       ·
        subst c12;rw [if_pos rfl] at H;have H':=Zk H;clear H;have p576:0≤(x16_1:Int):=of_decide_eq_true (by first|(with_reducible assumption)|assumption);have q576:x16_1<(l0_0.length:Int):=of_decide_eq_true (by first|(with_reducible assumption)|assumption);obtain ⟨ad576,e576,hx576_0⟩:=Kd.at_int HR0_0.out x16_1 p576 q576;cases e576;replace hx576_0:=(HB.out.cell (World.block_lt_of_cell? w _ hx576_0)).trans hx576_0;replace p576:=eq_true p576;replace q576:=eq_true q576;go_wp2_with (first|((with_reducible refine Qc5 (f:=192) rfl ?_);refine Qd3 (some 25) rfl rfl Tryz.func192 (by kernel_rfl) rfl #[.int .i64 (rd l0_0 x16_1), .int .i64 0, .int .i64 (wrap64 ((ji10) - 1))] rfl (by (try simp only [List.map_toArray,List.map_cons,List.map_nil]);first|done|(simp only [hji10];rfl)|rfl|(simp only [List.length_drop,List.length_take];rfl)) ?_;(with_reducible refine (Qbz.calls (rd l0_0 x16_1) 0 (wrap64 ((ji10) - 1)) true _ A11.out).mono ?_);rintro e w' ⟨rfl,⟨nd,rfl⟩⟩;refine ⟨_,rfl,?_⟩))
        go_loopg [6] k1 (fun kq v6 w'=> ∃ (x6_2:Int),v6= .int .i64 x6_2∧Z0 (Qbm.l1 kq x16_1 (rd l0_0 x16_1) x6_2 l0_0 (l0_0.length:Int) x16_1 l0_0=some r)∧Z0 (kq≤k1)∧Z0 (w'.heap[gb574]? =some (.cells #[(.slice (some ad576) l0_0.length c0_0)] 26 (0,0)))∧Z0 (Below w.heap.size w w'))
        case atStart=>exact ⟨(0),(by first|rfl|(simp;done)|(simp [*];done)),H',⟨Nat.le_refl _⟩,⟨uK BK574⟩,⟨(vB HB)⟩⟩
        case round=>
         clear H'
         try clear c6b0 c7b0 c8b0 c9b0 hx576_0 p576 q576
         obtain ⟨x6_2,rfl,HA,HK2,BK574,HB⟩:=hrel;cases gk with
         |zero=>exact absurd HA.out (by simp [Qbm.l1])
         |succ k2=>
          have H:=HA.out;clear HA;simp only [Qbm.l1] at H
          by_cases c13:x6_2<x16_1
          ·
           rw [if_pos c13] at H;have c13b0:=decide_eq_true c13;clear c13
           by_cases c14:0≤x6_2
           ·
            rw [if_pos c14] at H;have c14b0:=eq_true c14;have c14b1:=decide_eq_true c14;clear c14;obtain ⟨ji15,hji15⟩: ∃ j_:Int,(shr .i64 (rd l0_0 x16_1) x6_2)=j_:=⟨_,rfl⟩
            replace H:(if (Int.tmod (ji15) 2)=1 then (if x6_2<(l0_0.length:Int) then (if (Go.bits .andNot .i64 (rd l0_0 x6_2) (rd l0_0 x16_1))=0 then (Qbm.l1 k2 x16_1 (rd l0_0 x16_1) (wrap64 (x6_2+1)) l0_0 (l0_0.length:Int) x16_1 l0_0) else (some false)) else (none)) else (Qbm.l1 k2 x16_1 (rd l0_0 x16_1) (wrap64 (x6_2+1)) l0_0 (l0_0.length:Int) x16_1 l0_0))=some r:=by first|(rw [hji15] at H;exact H)|(simp only [hji15] at H ⊢;exact H)
            have hji15_:((rd l0_0 x16_1) / 2 ^ min x6_2.toNat 64)=ji15:=hji15;have hji15z:x6_2≤64→((rd l0_0 x16_1) / 2 ^ x6_2.toNat)=ji15:=Qg8 hji15
            by_cases c16:(Int.tmod (ji15) 2)=1
            ·
             rw [if_pos c16] at H;have c16b0:((Int.tmod (ji15) 2)==1)=true:=beq_iff_eq.mpr c16;have c16b1:((Int.tmod (ji15) 2) !=1)=false:=bne_eq_false_iff_eq.mpr c16;clear c16
             by_cases c17:x6_2<(l0_0.length:Int)
             ·
              rw [if_pos c17] at H;have c17b0:=decide_eq_true c17;clear c17
              by_cases c18:(Go.bits .andNot .i64 (rd l0_0 x6_2) (rd l0_0 x16_1))=0
              ·
               rw [if_pos c18] at H;have c18b0:((Go.bits .andNot .i64 (rd l0_0 x6_2) (rd l0_0 x16_1))==0)=true:=beq_iff_eq.mpr c18;have c18b1:((Go.bits .andNot .i64 (rd l0_0 x6_2) (rd l0_0 x16_1)) !=0)=false:=bne_eq_false_iff_eq.mpr c18;clear c18;have H':=Zk H;clear H;have hcz19_0:=bC BK574;have hfz19_0:=Q6 BK574.out 0;have p578:0≤(x6_2:Int):=of_decide_eq_true (by first|(with_reducible assumption)|assumption);have q578:x6_2<(l0_0.length:Int):=of_decide_eq_true (by first|(with_reducible assumption)|assumption);obtain ⟨ad578,e578,hx578_0⟩:=Kd.at_int HR0_0.out x6_2 p578 q578;obtain rfl:ad576=ad578:=(by injection e578)
               replace hx578_0:=(HB.out.cell (World.block_lt_of_cell? w _ hx578_0)).trans hx578_0;replace p578:=eq_true p578;replace q578:=eq_true q578;go_wp2;go_roundg k2
               case measure=>have:=HK1.out;have:=HK2.out;omega
               case rel=>exact ⟨(wrap64 (x6_2+1)),(by first|rfl|(simp;done)|(simp [*];done)),H',⟨by have:=HK1.out;have:=HK2.out;omega⟩,⟨uK BK574⟩,⟨(vB HB)⟩⟩
              ·
               rw [if_neg c18] at H;have c18b0:((Go.bits .andNot .i64 (rd l0_0 x6_2) (rd l0_0 x16_1))==0)=false:=beq_eq_false_iff_ne.mpr c18;have c18b1:((Go.bits .andNot .i64 (rd l0_0 x6_2) (rd l0_0 x16_1)) !=0)=true:=bne_iff_ne.mpr c18;obtain rfl:=Option.some.inj H;have hcz20_0:=bC BK574;have hfz20_0:=Q6 BK574.out 0;have p578:0≤(x6_2:Int):=of_decide_eq_true (by first|(with_reducible assumption)|assumption);have q578:x6_2<(l0_0.length:Int):=of_decide_eq_true (by first|(with_reducible assumption)|assumption);obtain ⟨ad578,e578,hx578_0⟩:=Kd.at_int HR0_0.out x6_2 p578 q578;obtain rfl:ad576=ad578:=(by injection e578)
               replace hx578_0:=(HB.out.cell (World.block_lt_of_cell? w _ hx578_0)).trans hx578_0;replace p578:=eq_true p578;replace q578:=eq_true q578;go_wp2
               go_ret
               exact ⟨by first|rfl|(simp [Qe,Qf] <;>rfl)|(simp only [←hji10,←hji15];first|rfl|(simp [Qe,Qf] <;>rfl))|(simp [*,Qe,Qf] <;>rfl),(vB HB)⟩
             ·
              rw [if_neg c17] at H;exact absurd H (by simp)
            ·
             rw [if_neg c16] at H;have c16b0:((Int.tmod (ji15) 2)==1)=false:=beq_eq_false_iff_ne.mpr c16;have c16b1:((Int.tmod (ji15) 2) !=1)=true:=bne_iff_ne.mpr c16;have H':=Zk H;clear H;go_wp2;go_roundg k2
             case measure=>have:=HK1.out;have:=HK2.out;omega
             case rel=>exact ⟨(wrap64 (x6_2+1)),(by first|rfl|(simp;done)|(simp [*];done)),H',⟨by have:=HK1.out;have:=HK2.out;omega⟩,⟨uK BK574⟩,⟨(vB HB)⟩⟩
           ·
            rw [if_neg c14] at H;exact absurd H (by simp)
          ·
           rw [if_neg c13] at H;have c13b0:=decide_eq_false c13;clear c13;have H':=Zk H;clear H;go_wp2;go_roundg k2
           case measure=>have:=HK1.out;have:=HK2.out;omega
           case rel=>exact ⟨(wrap64 (x16_1+1)),(by first|rfl|(simp;done)|(simp [*];done)),H',⟨by have:=HK1.out;have:=HK2.out;omega⟩,⟨uK BK574⟩,⟨(vB HB)⟩⟩
       ·
        replace c12:=Bool.eq_false_iff.mpr c12;subst c12;rw [if_neg (show ¬ (false=true) by decide)] at H;obtain rfl:=Option.some.inj H;have p576:0≤(x16_1:Int):=of_decide_eq_true (by first|(with_reducible assumption)|assumption);have q576:x16_1<(l0_0.length:Int):=of_decide_eq_true (by first|(with_reducible assumption)|assumption);obtain ⟨ad576,e576,hx576_0⟩:=Kd.at_int HR0_0.out x16_1 p576 q576;cases e576;replace hx576_0:=(HB.out.cell (World.block_lt_of_cell? w _ hx576_0)).trans hx576_0;replace p576:=eq_true p576;replace q576:=eq_true q576;go_wp2_with (first|((with_reducible refine Qc5 (f:=192) rfl ?_);refine Qd3 (some 25) rfl rfl Tryz.func192 (by kernel_rfl) rfl #[.int .i64 (rd l0_0 x16_1), .int .i64 0, .int .i64 (wrap64 ((ji10) - 1))] rfl (by (try simp only [List.map_toArray,List.map_cons,List.map_nil]);first|done|(simp only [hji10];rfl)|rfl|(simp only [List.length_drop,List.length_take];rfl)) ?_;(with_reducible refine (Qbz.calls (rd l0_0 x16_1) 0 (wrap64 ((ji10) - 1)) false _ A11.out).mono ?_);rintro e w' ⟨rfl,⟨nd,rfl⟩⟩;refine ⟨_,rfl,?_⟩))
        go_ret
        exact ⟨by first|rfl|(simp [Qe,Qf] <;>rfl)|(simp only [←hji10];first|rfl|(simp [Qe,Qf] <;>rfl))|(simp [*,Qe,Qf] <;>rfl),(vB HB)⟩
      ·
       rw [if_neg c8] at H;exact absurd H (by simp)
     ·
      rw [if_neg c7] at H;exact absurd H (by simp)
    ·
     rw [if_neg c6] at H;have c6b0:=decide_eq_false c6;clear c6;obtain rfl:=Option.some.inj H;go_wp2
     go_ret
     exact ⟨by first|rfl|(simp [Qe,Qf] <;>rfl)|(simp [*,Qe,Qf] <;>rfl),(vB HB)⟩
 ·
  replace c3:=Bool.eq_false_iff.mpr c3;subst c3;rw [if_neg (show ¬ (false=true) by decide)] at H;obtain rfl:=Option.some.inj H;go_enter Tryz.func183,Tryz.ntmps183;go_wp2_with (first|(refine bE (N:=1) (cs:= #[.slice A0_0 l0_0.length c0_0]) (t:=26) ?_;intro gb574 hg w21 hbox hb;have BK574:=Zk (hbox);have GW574:=Zk ((by rw [hg];exact (Qh (uB HB)):w.heap.size≤gb574));have GE574:=GW574;replace HB:=Zk (Qb (uB HB) hb);clear hb hbox hg;have hcz22_0:=bC BK574;have hfz22_0:=Q6 BK574.out 0)|(refine gA (some 11) Tryz.func192 #[.int .i64 (l0_0.length:Int), .int .i64 1, .int .i64 10] ?_;(with_reducible refine (Qbz.calls (l0_0.length:Int) 1 10 false _ A2.out).mono ?_);rintro e w' ⟨rfl,⟨nd,rfl⟩⟩;refine ⟨_,rfl,?_⟩))
  go_ret
  exact ⟨by first|rfl|(simp [Qe,Qf] <;>rfl)|(simp [*,Qe,Qf] <;>rfl),(vB HB)⟩
def Qb3.l0:Nat→Int→Int→List Int→Int→Int→Option (Bool)
 |0,_,_,_,_,_=>none
 |k+1,x1,x2,x9,x10,x11=>if x11<x10 then (if 0≤x11 then (if x11<(x9.length:Int) then ((Qbz.f (rd x9 x11) x1 x2).bind fun t580=>(if t580=true then (Qb3.l0 k x1 x2 x9 x10 (wrap64 (x11+1))) else (some false))) else (none)) else (none)) else (some true)
def Qb3.f (k:Nat) (l0:List Int) (a1:Int) (a2:Int):Option (Bool):=Qb3.l0 k a1 a2 l0 (l0.length:Int) 0
theorem Qb3.mono_l: ∀ k,(∀ y0 y1 y2 y3 y4,LeO (Qb3.l0 k y0 y1 y2 y3 y4) (Qb3.l0 (k+1) y0 y1 y2 y3 y4))
 |0=>fun _ _ _ _ _ r h=>by simp [Qb3.l0] at h
 |k+1=>by
  have ih0:=Qb3.mono_l k
  ·
   intro y0 y1 y2 y3 y4;unfold Qb3.l0
   repeat' first
   |(with_reducible exact ih0 _ _ _ _ _)
   |(with_reducible exact LeO.refl _)
   |(with_reducible exact LeO.none _)
   |(with_reducible refine LeO.ite ?_ ?_)
   |(with_reducible refine LeO.bind ?_ (fun _=> ?_))
   |exact ih0 _ _ _ _ _
   |exact LeO.none _
   |refine LeO.ite ?_ ?_
   |refine LeO.bind ?_ (fun _=> ?_)
theorem Qb3.mono: ∀ a0 a1 a2 k,LeO (Qb3.f k a0 a1 a2) (Qb3.f (k+1) a0 a1 a2):=by
 intro a0 a1 a2 k;have ih0:=Qb3.mono_l k;unfold Qb3.f
 repeat' (with_reducible first|apply ih0|exact LeO.refl _|exact LeO.none _|refine LeO.ite ?_ ?_|refine LeO.bind ?_ (fun _=> ?_))
set_option maxHeartbeats 8000000 in
set_option maxRecDepth 100000 in
theorem Qb3.calls (k:Nat) (A0:Option Addr) (c0:Nat) (l0:List Int) (a1:Int) (a2:Int) (r:Bool) (w:World) (hr0:Kd.C (Kd.int .i64) w A0 l0.length l0) (hc0:l0.length≤c0) (h:Qb3.f k l0 a1 a2=some r):
 Calls Tryz.prog 224 #[.slice A0 l0.length c0, .int .i64 a1, .int .i64 a2] w fun e w'=>e= .returned (.bool r)∧Drawn0 w w':=by
 have HR0:=Zk hr0;have HC0:=Zk hc0;clear hr0 hc0;have H:(Qb3.l0 k a1 a2 l0 (l0.length:Int) 0)=some r:=h;clear h;have H':=Zk H;clear H;go_enter Tryz.func224,Tryz.ntmps224;go_wp2
 go_loopg [11] k (fun kq v11 w'=> ∃ (x11_1:Int),v11= .int .i64 x11_1∧Z0 (Qb3.l0 kq a1 a2 l0 (l0.length:Int) x11_1=some r)∧Z0 (kq≤k)∧Drawn0 w w')
 case atStart=>exact ⟨(0),(by first|rfl|(simp;done)|(simp [*];done)),H',⟨Nat.le_refl _⟩,by repeat (first|exact Drawn0.refl _|apply Drawn0.step)⟩
 case round=>
  clear H'
  skip
  obtain ⟨x11_1,rfl,HA,HK1,⟨m1,rfl⟩⟩:=hrel;cases gk with
  |zero=>exact absurd HA.out (by simp [Qb3.l0])
  |succ k1=>
   have H:=HA.out;clear HA;simp only [Qb3.l0] at H
   by_cases c4:x11_1<(l0.length:Int)
   ·
    rw [if_pos c4] at H;have c4b0:=decide_eq_true c4;clear c4
    by_cases c5:0≤x11_1
    ·
     rw [if_pos c5] at H;have c5b0:=decide_eq_true c5;clear c5
     by_cases c6:x11_1<(l0.length:Int)
     ·
      rw [if_pos c6] at H;have c6b0:=decide_eq_true c6;clear c6;obtain ⟨t580,A7,H⟩:=bs H;(try dsimp only at H)
      by_cases c8:t580=true
      ·
       subst c8;rw [if_pos rfl] at H;have H':=Zk H;clear H;have p579:0≤(x11_1:Int):=of_decide_eq_true (by first|(with_reducible assumption)|assumption);have q579:x11_1<(l0.length:Int):=of_decide_eq_true (by first|(with_reducible assumption)|assumption);obtain ⟨ad579,e579,hx579_0⟩:=Kd.at_int HR0.out x11_1 p579 q579;cases e579;replace p579:=eq_true p579;replace q579:=eq_true q579;go_wp2_with (first|(refine gA (some 18) Tryz.func192 #[.int .i64 (rd l0 x11_1), .int .i64 a1, .int .i64 a2] ?_;(with_reducible refine (Qbz.calls (rd l0 x11_1) a1 a2 true _ A7.out).mono ?_);rintro e w' ⟨rfl,⟨nd,rfl⟩⟩;refine ⟨_,rfl,?_⟩));go_roundg k1
       case measure=>have:=HK1.out;omega
       case rel=>exact ⟨(wrap64 (x11_1+1)),(by first|rfl|(simp;done)|(simp [*];done)),H',⟨by have:=HK1.out;omega⟩,by repeat (first|exact Drawn0.refl _|apply Drawn0.step)⟩
      ·
       replace c8:=Bool.eq_false_iff.mpr c8;subst c8;rw [if_neg (show ¬ (false=true) by decide)] at H;obtain rfl:=Option.some.inj H;have p579:0≤(x11_1:Int):=of_decide_eq_true (by first|(with_reducible assumption)|assumption);have q579:x11_1<(l0.length:Int):=of_decide_eq_true (by first|(with_reducible assumption)|assumption);obtain ⟨ad579,e579,hx579_0⟩:=Kd.at_int HR0.out x11_1 p579 q579;cases e579;replace p579:=eq_true p579;replace q579:=eq_true q579;go_wp2_with (first|(refine gA (some 18) Tryz.func192 #[.int .i64 (rd l0 x11_1), .int .i64 a1, .int .i64 a2] ?_;(with_reducible refine (Qbz.calls (rd l0 x11_1) a1 a2 false _ A7.out).mono ?_);rintro e w' ⟨rfl,⟨nd,rfl⟩⟩;refine ⟨_,rfl,?_⟩))
       go_ret
       exact ⟨by first|rfl|(simp;done)|(simp [*];done),by repeat (first|exact Drawn0.refl _|apply Drawn0.step)⟩
     ·
      rw [if_neg c6] at H;exact absurd H (by simp)
    ·
     rw [if_neg c5] at H;exact absurd H (by simp)
   ·
    rw [if_neg c4] at H;have c4b0:=decide_eq_false c4;clear c4;obtain rfl:=Option.some.inj H;go_wp2
    go_ret
    exact ⟨by first|rfl|(simp;done)|(simp [*];done),by repeat (first|exact Drawn0.refl _|apply Drawn0.step)⟩
mutual
def Qck.j0:Nat→List Int→Bool→List Int→Option (Bool)
 |0,_,_,_=>none
 |k+1,x1,x21,x582000=>if x21=true then (some false) else (Qck.l0 k 0 x1 (x1.length:Int) 0 x582000)
def Qck.l0:Nat→Int→List Int→Int→Int→List Int→Option (Bool)
 |0,_,_,_,_,_=>none
 |k+1,x5,x22,x23,x24,x582000=>if x24<x23 then (if 0≤x24 then (if x24<(x22.length:Int) then ((Qc0.f x5 (rd x22 x24)).bind fun t584=>(if t584=true then (some false) else (if 0≤(rd x22 x24) then (if (rd x22 x24)<(x582000.length:Int) then (if (Go.bits .andNot .i64 (rd x582000 (rd x22 x24)) x5)=0 then (Qck.l0 k (Go.bits .or .i64 x5 (shl .i64 1 (rd x22 x24))) x22 x23 (wrap64 (x24+1)) x582000) else (some false)) else (none)) else (none)))) else (none)) else (none)) else (some true)
end
def Qck.f (k:Nat) (l0_0:List Int) (l1:List Int):Option (Bool):=if (l1.length:Int)=(l0_0.length:Int) then ((Qb3.f k l1 0 (wrap64 ((l1.length:Int) - 1))).bind fun t582=>(Qck.j0 k l1 (!t582) l0_0)) else (Qck.j0 k l1 true l0_0)
theorem Qck.mono_l: ∀ k,(∀ y0 y1 y2,LeO (Qck.j0 k y0 y1 y2) (Qck.j0 (k+1) y0 y1 y2))∧(∀ y0 y1 y2 y3 y4,LeO (Qck.l0 k y0 y1 y2 y3 y4) (Qck.l0 (k+1) y0 y1 y2 y3 y4))
 |0=>⟨fun _ _ _ r h=>by simp [Qck.j0] at h,fun _ _ _ _ _ r h=>by simp [Qck.l0] at h⟩
 |k+1=>by
  obtain ⟨ih0,ih1⟩:=Qck.mono_l k;refine ⟨?_,?_⟩
  all_goals
   intros
   first|unfold Qck.j0|unfold Qck.l0
   repeat' (with_reducible first|apply ih0|apply ih1|apply Qb3.mono|exact LeO.refl _|exact LeO.none _|refine LeO.ite ?_ ?_|refine LeO.bind ?_ (fun _=> ?_))
theorem Qck.mono: ∀ a0 a1 k,LeO (Qck.f k a0 a1) (Qck.f (k+1) a0 a1):=by
 intro a0 a1 k;obtain ⟨ih0,ih1⟩:=Qck.mono_l k;unfold Qck.f
 repeat' (with_reducible first|apply ih0|apply ih1|apply Qb3.mono|exact LeO.refl _|exact LeO.none _|refine LeO.ite ?_ ?_|refine LeO.bind ?_ (fun _=> ?_))
set_option maxHeartbeats 8000000 in
set_option maxRecDepth 100000 in
theorem Qck.calls (k:Nat) (A0_0:Option Addr) (c0_0:Nat) (l0_0:List Int) (A1:Option Addr) (c1:Nat) (l1:List Int) (r:Bool) (w:World) (hr0_0:Kd.C (Kd.int .i64) w A0_0 l0_0.length l0_0) (hc0_0:l0_0.length≤c0_0) (hr1:Kd.C (Kd.int .i64) w A1 l1.length l1) (hc1:l1.length≤c1) (h:Qck.f k l0_0 l1=some r):
 Calls Tryz.prog 330 #[.agg #[.slice A0_0 l0_0.length c0_0], .slice A1 l1.length c1] w fun e w'=>e= .returned (.bool r)∧Below w.heap.size w w':=by
 have hu26:=Tryz.underlying26;have HR0_0:=Zk hr0_0;have HC0_0:=Zk hc0_0;clear hr0_0 hc0_0;have HR1:=Zk hr1;have HC1:=Zk hc1;clear hr1 hc1;have HB:=Zk (Below.refl w.heap.size w);have H:(if (l1.length:Int)=(l0_0.length:Int) then ((Qb3.f k l1 0 (wrap64 ((l1.length:Int) - 1))).bind fun t582=>(Qck.j0 k l1 (!t582) l0_0)) else (Qck.j0 k l1 true l0_0))=some r:=h;clear h;have HC3:=Zk H;clear H;go_enter Tryz.func330,Tryz.ntmps330;go_upto_region 1 with (first|((with_reducible refine Qu (N:=2) rfl ?_);(try (refine Qj5 (by rfl) ?_;dsimp only));refine bE (N:=2) (cs:= #[.slice A0_0 l0_0.length c0_0]) (t:=26) ?_;intro gb581 hg w4 hbox hb;have BK581:=Zk (hbox);have GW581:=Zk ((by rw [hg];exact (Qh (uB HB)):w.heap.size≤gb581));have GE581:=GW581;replace HB:=Zk (Qb (uB HB) hb);clear hb hbox hg))
 (try simp only [Act.put,List.setIfInBounds_toArray,List.set_cons_zero,List.set_cons_succ])
 go_cut [21] (fun v21 wc=> ∃ (kq:Nat) (x21_2:Bool),v21= .bool x21_2∧Z0 (Qck.j0 kq l1 x21_2 l0_0=some r)∧Z0 (kq≤k)∧Z0 (wc.heap[gb581]? =some (.cells #[(.slice A0_0 l0_0.length c0_0)] 26 (0,0)))∧Z0 (Below w.heap.size w wc))
 case first=>
  have H:=HC3.out;clear HC3
  by_cases c5:(l1.length:Int)=(l0_0.length:Int)
  ·
   rw [if_pos c5] at H;have c5b0:((l1.length:Int)==(l0_0.length:Int))=true:=beq_iff_eq.mpr c5;have c5b1:((l1.length:Int) !=(l0_0.length:Int))=false:=bne_eq_false_iff_eq.mpr c5;have c5b2:(l1.length==l0_0.length)=true:=by first|simpa using c5|(simp at c5 ⊢;omega)
   clear c5
   (first|rw [c5b0] |(simp only [Qcm,Qee];rw [c5b0])|skip)
   obtain ⟨t582,A6,H⟩:=bs H;(try dsimp only at H)
   have H':=Zk H;clear H;have hcz7_0:=bC BK581;have hfz7_0:=Q6 BK581.out 0;go_wp2_with (first|(go_at_call 224;(with_reducible refine (Qb3.calls k _ _ l1 0 (wrap64 ((l1.length:Int) - 1)) t582 _ (uD HR1 HB) HC1.out A6.out).mono ?_);rintro e w' ⟨rfl,⟨nd,rfl⟩⟩))
   go_meet
   case rel=>exact ⟨_,(!t582),(by first|rfl|(simp;done)|(simp [*];done)),H',⟨by first|omega|exact Nat.le_refl _⟩,⟨uK BK581⟩,⟨(vB HB)⟩⟩
  ·
   rw [if_neg c5] at H;have c5b0:((l1.length:Int)==(l0_0.length:Int))=false:=beq_eq_false_iff_ne.mpr c5;have c5b1:((l1.length:Int) !=(l0_0.length:Int))=true:=bne_iff_ne.mpr c5;have c5b2:(l1.length==l0_0.length)=false:=by first|simpa using c5|(simp at c5 ⊢;omega)
   (first|rw [c5b0] |(simp only [Qcm,Qee];rw [c5b0])|skip)
   have H':=Zk H;clear H;have hcz8_0:=bC BK581;have hfz8_0:=Q6 BK581.out 0;go_wp2
   go_meet
   case rel=>exact ⟨_,(true),(by first|rfl|(simp;done)|(simp [*];done)),H',⟨by first|omega|exact Nat.le_refl _⟩,⟨uK BK581⟩,⟨(vB HB)⟩⟩
 case rest=>
  clear HC3
  skip
  obtain ⟨kq,x21_2,rfl,HA,HJ2,BK581,HB⟩:=hcut;cases kq with
  |zero=>exact absurd HA.out (by simp [Qck.j0])
  |succ kj2=>
   have H:=HA.out;clear HA;simp only [Qck.j0] at H
   by_cases c9:x21_2=true
   ·
    subst c9;rw [if_pos rfl] at H;obtain rfl:=Option.some.inj H;go_wp2
    go_ret
    exact ⟨by first|rfl|(simp [Qe,Qf] <;>rfl)|(simp [*,Qe,Qf] <;>rfl),(vB HB)⟩
   ·
    replace c9:=Bool.eq_false_iff.mpr c9;subst c9;rw [if_neg (show ¬ (false=true) by decide)] at H;have H':=Zk H;clear H;go_wp2
    go_loopg [5,24] kj2 (fun kq v5 v24 w'=> ∃ (x5_2:Int) (x24_2:Int),v5= .int .i64 x5_2∧v24= .int .i64 x24_2∧Z0 (Qck.l0 kq x5_2 l1 (l1.length:Int) x24_2 l0_0=some r)∧Z0 (kq≤kj2)∧Z0 (w'.heap[gb581]? =some (.cells #[(.slice A0_0 l0_0.length c0_0)] 26 (0,0)))∧Z0 (Below w.heap.size w w'))
    case atStart=>exact ⟨(0),(0),(by first|rfl|(simp;done)|(simp [*];done)),(by first|rfl|(simp;done)|(simp [*];done)),H',⟨Nat.le_refl _⟩,⟨uK BK581⟩,⟨(vB HB)⟩⟩
    case round=>
     clear H'
     skip
     obtain ⟨x5_2,x24_2,rfl,rfl,HA,HK2,BK581,HB⟩:=hrel;cases gk with
     |zero=>exact absurd HA.out (by simp [Qck.l0])
     |succ k2=>
      have H:=HA.out;clear HA;simp only [Qck.l0] at H
      by_cases c10:x24_2<(l1.length:Int)
      ·
       rw [if_pos c10] at H;have c10b0:=decide_eq_true c10;clear c10
       by_cases c11:0≤x24_2
       ·
        rw [if_pos c11] at H;have c11b0:=decide_eq_true c11;clear c11
        by_cases c12:x24_2<(l1.length:Int)
        ·
         rw [if_pos c12] at H;have c12b0:=decide_eq_true c12;clear c12;obtain ⟨t584,A13,H⟩:=bs H;(try dsimp only at H)
         by_cases c14:t584=true
         ·
          subst c14;rw [if_pos rfl] at H;obtain rfl:=Option.some.inj H;have p583:0≤(x24_2:Int):=of_decide_eq_true (by first|(with_reducible assumption)|assumption);have q583:x24_2<(l1.length:Int):=of_decide_eq_true (by first|(with_reducible assumption)|assumption);obtain ⟨ad583,e583,hx583_0⟩:=Kd.at_int HR1.out x24_2 p583 q583;cases e583;replace hx583_0:=(HB.out.cell (World.block_lt_of_cell? w _ hx583_0)).trans hx583_0;replace p583:=eq_true p583;replace q583:=eq_true q583;go_wp2_with (first|(refine gA (some 30) Tryz.func253 #[.int .i64 x5_2, .int .i64 (rd l1 x24_2)] ?_;(with_reducible refine (Qc0.calls x5_2 (rd l1 x24_2) true _ A13.out).mono ?_);rintro e w' ⟨rfl,⟨nd,rfl⟩⟩;refine ⟨_,rfl,?_⟩))
          go_ret
          exact ⟨by first|rfl|(simp [Qe,Qf] <;>rfl)|(simp [*,Qe,Qf] <;>rfl),(vB HB)⟩
         ·
          replace c14:=Bool.eq_false_iff.mpr c14;subst c14;rw [if_neg (show ¬ (false=true) by decide)] at H
          by_cases c15:0≤(rd l1 x24_2)
          ·
           rw [if_pos c15] at H;have c15b0:=decide_eq_true c15;clear c15
           by_cases c16:(rd l1 x24_2)<(l0_0.length:Int)
           ·
            rw [if_pos c16] at H;have c16b0:=decide_eq_true c16;clear c16
            by_cases c17:(Go.bits .andNot .i64 (rd l0_0 (rd l1 x24_2)) x5_2)=0
            ·
             rw [if_pos c17] at H;have c17b0:((Go.bits .andNot .i64 (rd l0_0 (rd l1 x24_2)) x5_2)==0)=true:=beq_iff_eq.mpr c17;have c17b1:((Go.bits .andNot .i64 (rd l0_0 (rd l1 x24_2)) x5_2) !=0)=false:=bne_eq_false_iff_eq.mpr c17;clear c17;have c18b0:=eq_true (of_decide_eq_true (by first|(with_reducible assumption)|assumption):0≤(rd l1 x24_2));obtain ⟨ji19,hji19⟩: ∃ j_:Int,(shl .i64 1 (rd l1 x24_2))=j_:=⟨_,rfl⟩
             replace H:(Qck.l0 k2 (Go.bits .or .i64 x5_2 (ji19)) l1 (l1.length:Int) (wrap64 (x24_2+1)) l0_0)=some r:=by first|(rw [hji19] at H;exact H)|(simp only [hji19] at H ⊢;exact H)
             (try rw [hji19] at A13)
             have hji19_:(IntKind.i64.wrap (1*2 ^ min (rd l1 x24_2).toNat 64))=ji19:=hji19;have hji19z:(rd l1 x24_2)≤64→(IntKind.i64.wrap (1*2 ^ (rd l1 x24_2).toNat))=ji19:=Qea hji19;have hji19u:(IntKind.i64.wrap (2 ^ min (rd l1 x24_2).toNat 64))=ji19:=by have h_:=hji19_;rw [Int.one_mul] at h_;exact h_
             have hji19v:(rd l1 x24_2)≤64→(IntKind.i64.wrap (2 ^ (rd l1 x24_2).toNat))=ji19:=fun hle_=>by have h_:=hji19z hle_;rw [Int.one_mul] at h_;exact h_
             have hji19y:(wrap64 (1*2 ^ min (rd l1 x24_2).toNat 64))=ji19:=(Qcm _).symm.trans hji19_;have hji19x:(rd l1 x24_2)≤64→(wrap64 (1*2 ^ (rd l1 x24_2).toNat))=ji19:=fun h_=>(Qcm _).symm.trans (hji19z h_)
             have H':=Zk H;clear H;have p583:0≤(x24_2:Int):=of_decide_eq_true (by first|(with_reducible assumption)|assumption);have q583:x24_2<(l1.length:Int):=of_decide_eq_true (by first|(with_reducible assumption)|assumption);obtain ⟨ad583,e583,hx583_0⟩:=Kd.at_int HR1.out x24_2 p583 q583;cases e583;replace hx583_0:=(HB.out.cell (World.block_lt_of_cell? w _ hx583_0)).trans hx583_0;replace p583:=eq_true p583;replace q583:=eq_true q583;go_wp2_with (first|(refine gA (some 30) Tryz.func253 #[.int .i64 x5_2, .int .i64 (rd l1 x24_2)] ?_;(with_reducible refine (Qc0.calls x5_2 (rd l1 x24_2) false _ A13.out).mono ?_);rintro e w' ⟨rfl,⟨nd,rfl⟩⟩;refine ⟨_,rfl,?_⟩;have hcz20_0:=bC BK581;have hfz20_0:=Q6 BK581.out 0;have p585:0≤((rd l1 x24_2):Int):=of_decide_eq_true (by first|(with_reducible assumption)|assumption);have q585:(rd l1 x24_2)<(l0_0.length:Int):=of_decide_eq_true (by first|(with_reducible assumption)|assumption);obtain ⟨ad585,e585,hx585_0⟩:=Kd.at_int HR0_0.out (rd l1 x24_2) p585 q585;cases e585;replace hx585_0:=(HB.out.cell (World.block_lt_of_cell? w _ hx585_0)).trans hx585_0;replace p585:=eq_true p585;replace q585:=eq_true q585));go_roundg k2
             case measure=>have:=HJ2.out;have:=HK2.out;omega
             case rel=>exact ⟨(Go.bits .or .i64 x5_2 (ji19)),(wrap64 (x24_2+1)),(by first|rfl|(simp;done)|(simp only [←hji19] <;>(first|rfl|simp))|(simp [*];done)),(by first|rfl|(simp;done)|(simp [*];done)),H',⟨by have:=HJ2.out;have:=HK2.out;omega⟩,⟨uK BK581⟩,⟨(vB HB)⟩⟩
            ·
             rw [if_neg c17] at H;have c17b0:((Go.bits .andNot .i64 (rd l0_0 (rd l1 x24_2)) x5_2)==0)=false:=beq_eq_false_iff_ne.mpr c17;have c17b1:((Go.bits .andNot .i64 (rd l0_0 (rd l1 x24_2)) x5_2) !=0)=true:=bne_iff_ne.mpr c17;obtain rfl:=Option.some.inj H;have p583:0≤(x24_2:Int):=of_decide_eq_true (by first|(with_reducible assumption)|assumption);have q583:x24_2<(l1.length:Int):=of_decide_eq_true (by first|(with_reducible assumption)|assumption);obtain ⟨ad583,e583,hx583_0⟩:=Kd.at_int HR1.out x24_2 p583 q583;cases e583;replace hx583_0:=(HB.out.cell (World.block_lt_of_cell? w _ hx583_0)).trans hx583_0;replace p583:=eq_true p583;replace q583:=eq_true q583;go_wp2_with (first|(refine gA (some 30) Tryz.func253 #[.int .i64 x5_2, .int .i64 (rd l1 x24_2)] ?_;(with_reducible refine (Qc0.calls x5_2 (rd l1 x24_2) false _ A13.out).mono ?_);rintro e w' ⟨rfl,⟨nd,rfl⟩⟩;refine ⟨_,rfl,?_⟩;have hcz21_0:=bC BK581;have hfz21_0:=Q6 BK581.out 0;have p585:0≤((rd l1 x24_2):Int):=of_decide_eq_true (by first|(with_reducible assumption)|assumption);have q585:(rd l1 x24_2)<(l0_0.length:Int):=of_decide_eq_true (by first|(with_reducible assumption)|assumption);obtain ⟨ad585,e585,hx585_0⟩:=Kd.at_int HR0_0.out (rd l1 x24_2) p585 q585;cases e585;replace hx585_0:=(HB.out.cell (World.block_lt_of_cell? w _ hx585_0)).trans hx585_0;replace p585:=eq_true p585;replace q585:=eq_true q585))
             go_ret
             exact ⟨by first|rfl|(simp [Qe,Qf] <;>rfl)|(simp [*,Qe,Qf] <;>rfl),(vB HB)⟩
           ·
            rw [if_neg c16] at H;exact absurd H (by simp)
          ·
           rw [if_neg c15] at H;exact absurd H (by simp)
        ·
         rw [if_neg c12] at H;exact absurd H (by simp)
       ·
        rw [if_neg c11] at H;exact absurd H (by simp)
      ·
       rw [if_neg c10] at H;have c10b0:=decide_eq_false c10;clear c10;obtain rfl:=Option.some.inj H;go_wp2
       go_ret
       exact ⟨by first|rfl|(simp [Qe,Qf] <;>rfl)|(simp [*,Qe,Qf] <;>rfl),(vB HB)⟩
mutual
def Q4.j0:Nat→List Int→Bool→List Int→Option (Int × Bool)
 |0,_,_,_=>none
 |k+1,x1,x20,x587000=>if x20=true then (some (0,false)) else ((Qw.f k x587000).bind fun t589=>(Q4.l0 k t589 0 0 x1 (x1.length:Int) 0 x587000))
def Q4.l0:Nat→List Int→Int→Int→List Int→Int→Int→List Int→Option (Int × Bool)
 |0,_,_,_,_,_,_,_=>none
 |k+1,x6,x7,x8,x23,x24,x25,x587000=>if x25<x24 then (if 0≤x25 then (if x25<(x23.length:Int) then (Q4.l1 k x6 x7 x8 (rd x23 x25) 0 x23 x24 x25 x587000) else (none)) else (none)) else (some (x7,true))
def Q4.l1:Nat→List Int→Int→Int→Int→Int→List Int→Int→Int→List Int→Option (Int × Bool)
 |0,_,_,_,_,_,_,_,_,_=>none
 |k+1,x6,x7,x8,x10,x11,x23,x24,x25,x587000=>if x11<x10 then ((Qc0.f x8 x11).bind fun t593=>(if t593=true then (Q4.l1 k x6 x7 x8 x10 (wrap64 (x11+1)) x23 x24 x25 x587000) else (if 0≤x11 then (if x11<(x587000.length:Int) then (if (Go.bits .andNot .i64 (rd x587000 x11) x8)=0 then (if 0≤(Go.bits .or .i64 x8 (shl .i64 1 x11)) then (if (Go.bits .or .i64 x8 (shl .i64 1 x11))<(x6.length:Int) then (Q4.l1 k x6 (wrap64 (x7+(rd x6 (Go.bits .or .i64 x8 (shl .i64 1 x11))))) x8 x10 (wrap64 (x11+1)) x23 x24 x25 x587000) else (none)) else (none)) else (Q4.l1 k x6 x7 x8 x10 (wrap64 (x11+1)) x23 x24 x25 x587000)) else (none)) else (none)))) else (if 0≤x10 then (Q4.l0 k x6 x7 (Go.bits .or .i64 x8 (shl .i64 1 x10)) x23 x24 (wrap64 (x25+1)) x587000) else (none))
end
def Q4.f (k:Nat) (l0_0:List Int) (l1:List Int):Option (Int × Bool):=(Qbm.f k l0_0).bind fun t587=>(if t587=true then ((Qck.f k l0_0 l1).bind fun t588=>(Q4.j0 k l1 (!t588) l0_0)) else (Q4.j0 k l1 true l0_0))
theorem Q4.mono_l: ∀ k,(∀ y0 y1 y2,LeO (Q4.j0 k y0 y1 y2) (Q4.j0 (k+1) y0 y1 y2))∧(∀ y0 y1 y2 y3 y4 y5 y6,LeO (Q4.l0 k y0 y1 y2 y3 y4 y5 y6) (Q4.l0 (k+1) y0 y1 y2 y3 y4 y5 y6))∧(∀ y0 y1 y2 y3 y4 y5 y6 y7 y8,LeO (Q4.l1 k y0 y1 y2 y3 y4 y5 y6 y7 y8) (Q4.l1 (k+1) y0 y1 y2 y3 y4 y5 y6 y7 y8))
 |0=>⟨fun _ _ _ r h=>by simp [Q4.j0] at h,fun _ _ _ _ _ _ _ r h=>by simp [Q4.l0] at h,fun _ _ _ _ _ _ _ _ _ r h=>by simp [Q4.l1] at h⟩
 |k+1=>by
  obtain ⟨ih0,ih1,ih2⟩:=Q4.mono_l k;refine ⟨?_,?_,?_⟩
  all_goals
   intros
   first|unfold Q4.j0|unfold Q4.l0|unfold Q4.l1
   repeat' (with_reducible first|apply ih0|apply ih1|apply ih2|apply Qw.mono|apply Qck.mono|apply Qbm.mono|exact LeO.refl _|exact LeO.none _|refine LeO.ite ?_ ?_|refine LeO.bind ?_ (fun _=> ?_))
theorem Q4.mono: ∀ a0 a1 k,LeO (Q4.f k a0 a1) (Q4.f (k+1) a0 a1):=by
 intro a0 a1 k;obtain ⟨ih0,ih1,ih2⟩:=Q4.mono_l k;unfold Q4.f
 repeat' (with_reducible first|apply ih0|apply ih1|apply ih2|apply Qw.mono|apply Qck.mono|apply Qbm.mono|exact LeO.refl _|exact LeO.none _|refine LeO.ite ?_ ?_|refine LeO.bind ?_ (fun _=> ?_))
set_option maxHeartbeats 8000000 in
set_option maxRecDepth 100000 in
theorem Q4.calls (k:Nat) (A0_0:Option Addr) (c0_0:Nat) (l0_0:List Int) (A1:Option Addr) (c1:Nat) (l1:List Int) (r1:Int) (r2:Bool) (w:World) (hr0_0:Kd.C (Kd.int .i64) w A0_0 l0_0.length l0_0) (hc0_0:l0_0.length≤c0_0) (hr1:Kd.C (Kd.int .i64) w A1 l1.length l1) (hc1:l1.length≤c1) (h:Q4.f k l0_0 l1=some (r1,r2)):
 Calls Tryz.prog 272 #[.agg #[.slice A0_0 l0_0.length c0_0], .slice A1 l1.length c1] w fun e w'=>e= .returned (.tuple #[.int .i64 r1, .bool r2])∧Below w.heap.size w w':=by
 have hu26:=Tryz.underlying26;have HR0_0:=Zk hr0_0;have HC0_0:=Zk hc0_0;clear hr0_0 hc0_0;have HR1:=Zk hr1;have HC1:=Zk hc1;clear hr1 hc1;have HB:=Zk (Below.refl w.heap.size w);have H:((Qbm.f k l0_0).bind fun t587=>(if t587=true then ((Qck.f k l0_0 l1).bind fun t588=>(Q4.j0 k l1 (!t588) l0_0)) else (Q4.j0 k l1 true l0_0)))=some (r1,r2):=h;clear h;have HC3:=Zk H;clear H;go_enter Tryz.func272,Tryz.ntmps272;go_upto_region 1 with (first|(refine bE (N:=2) (cs:= #[.slice A0_0 l0_0.length c0_0]) (t:=26) ?_;intro gb586 hg w4 hbox hb;have BK586:=Zk (hbox);have GW586:=Zk ((by rw [hg];exact (Qh (uB HB)):w.heap.size≤gb586));have GE586:=GW586;replace HB:=Zk (Qb (uB HB) hb);clear hb hbox hg))
 (try simp only [Act.put,List.setIfInBounds_toArray,List.set_cons_zero,List.set_cons_succ])
 go_cut [20] (fun v20 wc=> ∃ (kq:Nat) (x20_2:Bool),v20= .bool x20_2∧Z0 (Q4.j0 kq l1 x20_2 l0_0=some (r1,r2))∧Z0 (kq≤k)∧Z0 (wc.heap[gb586]? =some (.cells #[(.slice A0_0 l0_0.length c0_0)] 26 (0,0)))∧Z0 (Below w.heap.size w wc))
 case first=>
  have H:=HC3.out;clear HC3;obtain ⟨t587,A5,H⟩:=bs H;(try dsimp only at H)
  by_cases c6:t587=true
  ·
   subst c6;rw [if_pos rfl] at H;obtain ⟨t588,A7,H⟩:=bs H;(try dsimp only at H)
   have H':=Zk H;clear H;have hcz8_0:=bC BK586;have hfz8_0:=Q6 BK586.out 0;go_wp2_with (first|(refine gA (some 13) Tryz.func183 #[.agg #[.slice A0_0 l0_0.length c0_0]] ?_;(with_reducible refine (Qbm.calls k _ _ l0_0 true _ (uD HR0_0 HB) HC0_0.out A5.out).mono ?_);rintro e w9 ⟨rfl,hb⟩;refine ⟨_,rfl,?_⟩;replace BK586:=Zk (Qbg (uK BK586) hb);replace HB:=Zk (Qb (vB HB) hb);(try clear hb);have hcz10_0:=bC BK586;have hfz10_0:=Q6 BK586.out 0)|(go_at_call 330;(with_reducible refine (Qck.calls k _ _ l0_0 _ _ l1 t588 _ (uD HR0_0 HB) HC0_0.out (uD HR1 HB) HC1.out A7.out).mono ?_);rintro e w11 ⟨rfl,hb⟩;replace BK586:=Zk (Qbg (uK BK586) hb);replace HB:=Zk (Qb (vB HB) hb);(try clear hb)))
   go_meet
   case rel=>exact ⟨_,(!t588),(by first|rfl|(simp;done)|(simp [*];done)),H',⟨by first|omega|exact Nat.le_refl _⟩,⟨uK BK586⟩,⟨(vB HB)⟩⟩
  ·
   replace c6:=Bool.eq_false_iff.mpr c6;subst c6;rw [if_neg (show ¬ (false=true) by decide)] at H;have H':=Zk H;clear H;have hcz12_0:=bC BK586;have hfz12_0:=Q6 BK586.out 0;go_wp2_with (first|(refine gA (some 13) Tryz.func183 #[.agg #[.slice A0_0 l0_0.length c0_0]] ?_;(with_reducible refine (Qbm.calls k _ _ l0_0 false _ (uD HR0_0 HB) HC0_0.out A5.out).mono ?_);rintro e w13 ⟨rfl,hb⟩;refine ⟨_,rfl,?_⟩;replace BK586:=Zk (Qbg (uK BK586) hb);replace HB:=Zk (Qb (vB HB) hb);(try clear hb)))
   go_meet
   case rel=>exact ⟨_,(true),(by first|rfl|(simp;done)|(simp [*];done)),H',⟨by first|omega|exact Nat.le_refl _⟩,⟨uK BK586⟩,⟨(vB HB)⟩⟩
 case rest=>
  clear HC3
  skip
  obtain ⟨kq,x20_2,rfl,HA,HJ2,BK586,HB⟩:=hcut;cases kq with
  |zero=>exact absurd HA.out (by simp [Q4.j0])
  |succ kj2=>
   have H:=HA.out;clear HA;simp only [Q4.j0] at H
   by_cases c14:x20_2=true
   ·
    subst c14;rw [if_pos rfl] at H;simp only [Option.some.injEq,Prod.mk.injEq] at H;obtain ⟨rfl,rfl⟩:=H;go_wp2
    go_ret2
    exact ⟨by first|rfl|(simp [Qe,Qf] <;>rfl)|(simp [*,Qe,Qf] <;>rfl),(vB HB)⟩
   ·
    replace c14:=Bool.eq_false_iff.mpr c14;subst c14;rw [if_neg (show ¬ (false=true) by decide)] at H;obtain ⟨t589,A15,H⟩:=bs H;(try dsimp only at H)
    have H':=Zk H;clear H;have hcz16_0:=bC BK586;have hfz16_0:=Q6 BK586.out 0;go_wp2_with (first|(refine gA (some 22) Tryz.func317 #[.agg #[.slice A0_0 l0_0.length c0_0]] ?_;(with_reducible refine (Qw.calls kj2 _ _ l0_0 t589 _ (uD HR0_0 HB) HC0_0.out A15.out).mono ?_);rintro e w17 ⟨v590,rfl,ho0,hb⟩;refine ⟨_,rfl,?_⟩;have HO591:=Zk (Kd.R_lower ho0 (Qh (vB HB)));replace BK586:=Zk (Qbg (uK BK586) hb);replace HB:=Zk (Qb (vB HB) hb);(try clear hb ho0)))
    go_loopg [7,8,25] kj2 (fun kq v7 v8 v25 w'=> ∃ (x7_2:Int) (x8_2:Int) (x25_2:Int),v7= .int .i64 x7_2∧v8= .int .i64 x8_2∧v25= .int .i64 x25_2∧Z0 (Q4.l0 kq t589 x7_2 x8_2 l1 (l1.length:Int) x25_2 l0_0=some (r1,r2))∧Z0 (kq≤kj2)∧Z0 (Kd.R (Kd.int .i64) 3 w' w.heap.size (fun _=>True) v590 t589)∧Z0 (w'.heap[gb586]? =some (.cells #[(.slice A0_0 l0_0.length c0_0)] 26 (0,0)))∧Z0 (Below w.heap.size w w'))
    case atStart=>exact ⟨(0),(0),(0),(by first|rfl|(simp;done)|(simp [*];done)),(by first|rfl|(simp;done)|(simp [*];done)),(by first|rfl|(simp;done)|(simp [*];done)),H',⟨Nat.le_refl _⟩,⟨uR HO591⟩,⟨uK BK586⟩,⟨(vB HB)⟩⟩
    case round=>
     clear H'
     try clear hcz16_0 hfz16_0
     obtain ⟨x7_2,x8_2,x25_2,rfl,rfl,rfl,HA,HK2,HO_6,BK586,HB⟩:=hrel;cases gk with
     |zero=>exact absurd HA.out (by simp [Q4.l0])
     |succ k2=>
      have H:=HA.out;clear HA;simp only [Q4.l0] at H
      by_cases c18:x25_2<(l1.length:Int)
      ·
       rw [if_pos c18] at H;have c18b0:=decide_eq_true c18;clear c18
       by_cases c19:0≤x25_2
       ·
        rw [if_pos c19] at H;have c19b0:=decide_eq_true c19;clear c19
        by_cases c20:x25_2<(l1.length:Int)
        ·
         rw [if_pos c20] at H;have c20b0:=decide_eq_true c20;clear c20;have H':=Zk H;clear H;have p592:0≤(x25_2:Int):=of_decide_eq_true (by first|(with_reducible assumption)|assumption);have q592:x25_2<(l1.length:Int):=of_decide_eq_true (by first|(with_reducible assumption)|assumption);obtain ⟨ad592,e592,hx592_0⟩:=Kd.at_int HR1.out x25_2 p592 q592;cases e592;replace hx592_0:=(HB.out.cell (World.block_lt_of_cell? w _ hx592_0)).trans hx592_0;replace p592:=eq_true p592;replace q592:=eq_true q592;go_wp2
         go_loopg [7,11] k2 (fun kq v7 v11 w'=> ∃ (x7_3:Int) (x11_3:Int),v7= .int .i64 x7_3∧v11= .int .i64 x11_3∧Z0 (Q4.l1 kq t589 x7_3 x8_2 (rd l1 x25_2) x11_3 l1 (l1.length:Int) x25_2 l0_0=some (r1,r2))∧Z0 (kq≤k2)∧Z0 (Kd.R (Kd.int .i64) 3 w' w.heap.size (fun _=>True) v590 t589)∧Z0 (w'.heap[gb586]? =some (.cells #[(.slice A0_0 l0_0.length c0_0)] 26 (0,0)))∧Z0 (Below w.heap.size w w'))
         case atStart=>exact ⟨(x7_2),(0),(by first|rfl|(simp;done)|(simp [*];done)),(by first|rfl|(simp;done)|(simp [*];done)),H',⟨Nat.le_refl _⟩,⟨uR HO_6⟩,⟨uK BK586⟩,⟨(vB HB)⟩⟩
         case round=>
          clear H'
          try clear c18b0 c19b0 c20b0 hx592_0 p592 q592
          obtain ⟨x7_3,x11_3,rfl,rfl,HA,HK3,HO_6,BK586,HB⟩:=hrel;cases gk with
          |zero=>exact absurd HA.out (by simp [Q4.l1])
          |succ k3=>
           have H:=HA.out;clear HA;simp only [Q4.l1] at H
           by_cases c21:x11_3<(rd l1 x25_2)
           ·
            rw [if_pos c21] at H;have c21b0:=decide_eq_true c21;clear c21;obtain ⟨t593,A22,H⟩:=bs H;(try dsimp only at H)
            by_cases c23:t593=true
            ·
             subst c23;rw [if_pos rfl] at H;have H':=Zk H;clear H;go_wp2_with (first|(refine gA (some 36) Tryz.func253 #[.int .i64 x8_2, .int .i64 x11_3] ?_;(with_reducible refine (Qc0.calls x8_2 x11_3 true _ A22.out).mono ?_);rintro e w' ⟨rfl,⟨nd,rfl⟩⟩;refine ⟨_,rfl,?_⟩));go_roundg k3
             case measure=>have:=HJ2.out;have:=HK2.out;have:=HK3.out;omega
             case rel=>exact ⟨(x7_3),(wrap64 (x11_3+1)),(by first|rfl|(simp;done)|(simp [*];done)),(by first|rfl|(simp;done)|(simp [*];done)),H',⟨by have:=HJ2.out;have:=HK2.out;have:=HK3.out;omega⟩,⟨uR HO_6⟩,⟨uK BK586⟩,⟨(vB HB)⟩⟩
            ·
             replace c23:=Bool.eq_false_iff.mpr c23;subst c23;rw [if_neg (show ¬ (false=true) by decide)] at H
             by_cases c24:0≤x11_3
             ·
              rw [if_pos c24] at H;have c24b0:=decide_eq_true c24;clear c24
              by_cases c25:x11_3<(l0_0.length:Int)
              ·
               rw [if_pos c25] at H;have c25b0:=decide_eq_true c25;clear c25
               by_cases c26:(Go.bits .andNot .i64 (rd l0_0 x11_3) x8_2)=0
               ·
                rw [if_pos c26] at H;have c26b0:((Go.bits .andNot .i64 (rd l0_0 x11_3) x8_2)==0)=true:=beq_iff_eq.mpr c26;have c26b1:((Go.bits .andNot .i64 (rd l0_0 x11_3) x8_2) !=0)=false:=bne_eq_false_iff_eq.mpr c26;clear c26;have c27b0:=eq_true (of_decide_eq_true (by first|(with_reducible assumption)|assumption):0≤x11_3);obtain ⟨ji28,hji28⟩: ∃ j_:Int,(shl .i64 1 x11_3)=j_:=⟨_,rfl⟩
                replace H:(if 0≤(Go.bits .or .i64 x8_2 (ji28)) then (if (Go.bits .or .i64 x8_2 (ji28))<(t589.length:Int) then (Q4.l1 k3 t589 (wrap64 (x7_3+(rd t589 (Go.bits .or .i64 x8_2 (ji28))))) x8_2 (rd l1 x25_2) (wrap64 (x11_3+1)) l1 (l1.length:Int) x25_2 l0_0) else (none)) else (none))=some (r1,r2):=by first|(rw [hji28] at H;exact H)|(simp only [hji28] at H ⊢;exact H)
                (try rw [hji28] at A22)
                have hji28_:(IntKind.i64.wrap (1*2 ^ min x11_3.toNat 64))=ji28:=hji28;have hji28z:x11_3≤64→(IntKind.i64.wrap (1*2 ^ x11_3.toNat))=ji28:=Qea hji28;have hji28u:(IntKind.i64.wrap (2 ^ min x11_3.toNat 64))=ji28:=by have h_:=hji28_;rw [Int.one_mul] at h_;exact h_
                have hji28v:x11_3≤64→(IntKind.i64.wrap (2 ^ x11_3.toNat))=ji28:=fun hle_=>by have h_:=hji28z hle_;rw [Int.one_mul] at h_;exact h_
                have hji28y:(wrap64 (1*2 ^ min x11_3.toNat 64))=ji28:=(Qcm _).symm.trans hji28_;have hji28x:x11_3≤64→(wrap64 (1*2 ^ x11_3.toNat))=ji28:=fun h_=>(Qcm _).symm.trans (hji28z h_)
                by_cases c29:0≤(Go.bits .or .i64 x8_2 (ji28))
                ·
                 rw [if_pos c29] at H;have c29b0:=decide_eq_true c29;clear c29
                 by_cases c30:(Go.bits .or .i64 x8_2 (ji28))<(t589.length:Int)
                 ·
                  rw [if_pos c30] at H;have c30b0:=decide_eq_true c30;clear c30;have H':=Zk H;clear H;go_wp2_with (first|(refine gA (some 36) Tryz.func253 #[.int .i64 x8_2, .int .i64 x11_3] ?_;(with_reducible refine (Qc0.calls x8_2 x11_3 false _ A22.out).mono ?_);rintro e w' ⟨rfl,⟨nd,rfl⟩⟩;refine ⟨_,rfl,?_⟩;have hcz31_0:=bC BK586;have hfz31_0:=Q6 BK586.out 0;have p594:0≤(x11_3:Int):=of_decide_eq_true (by first|(with_reducible assumption)|assumption);have q594:x11_3<(l0_0.length:Int):=of_decide_eq_true (by first|(with_reducible assumption)|assumption);obtain ⟨ad594,e594,hx594_0⟩:=Kd.at_int HR0_0.out x11_3 p594 q594;cases e594;replace hx594_0:=(HB.out.cell (World.block_lt_of_cell? w _ hx594_0)).trans hx594_0;replace p594:=eq_true p594;replace q594:=eq_true q594;obtain ⟨Ao32,co32,eo32⟩:=Kd.R_slice HO_6.out;subst eo32;have p595:0≤((Go.bits .or .i64 x8_2 (ji28)):Int):=of_decide_eq_true (by first|(with_reducible assumption)|assumption);have q595:(Go.bits .or .i64 x8_2 (ji28))<(t589.length:Int):=of_decide_eq_true (by first|(with_reducible assumption)|assumption);obtain ⟨ad595,e595,hx595_0⟩:=Kd.at_int (Kd.R_reads' HO_6.out).2.2 (Go.bits .or .i64 x8_2 (ji28)) p595 q595;cases e595;replace p595:=eq_true p595;replace q595:=eq_true q595));go_roundg k3
                  case measure=>have:=HJ2.out;have:=HK2.out;have:=HK3.out;omega
                  case rel=>exact ⟨(wrap64 (x7_3+(rd t589 (Go.bits .or .i64 x8_2 (ji28))))),(wrap64 (x11_3+1)),(by first|rfl|(simp;done)|(simp only [←hji28] <;>(first|rfl|simp))|(simp [*];done)),(by first|rfl|(simp;done)|(simp [*];done)),H',⟨by have:=HJ2.out;have:=HK2.out;have:=HK3.out;omega⟩,⟨uR HO_6⟩,⟨uK BK586⟩,⟨(vB HB)⟩⟩
                 ·
                  rw [if_neg c30] at H;exact absurd H (by simp)
                ·
                 rw [if_neg c29] at H;exact absurd H (by simp)
               ·
                rw [if_neg c26] at H;have c26b0:((Go.bits .andNot .i64 (rd l0_0 x11_3) x8_2)==0)=false:=beq_eq_false_iff_ne.mpr c26;have c26b1:((Go.bits .andNot .i64 (rd l0_0 x11_3) x8_2) !=0)=true:=bne_iff_ne.mpr c26;have H':=Zk H;clear H;go_wp2_with (first|(refine gA (some 36) Tryz.func253 #[.int .i64 x8_2, .int .i64 x11_3] ?_;(with_reducible refine (Qc0.calls x8_2 x11_3 false _ A22.out).mono ?_);rintro e w' ⟨rfl,⟨nd,rfl⟩⟩;refine ⟨_,rfl,?_⟩;have hcz33_0:=bC BK586;have hfz33_0:=Q6 BK586.out 0;have p594:0≤(x11_3:Int):=of_decide_eq_true (by first|(with_reducible assumption)|assumption);have q594:x11_3<(l0_0.length:Int):=of_decide_eq_true (by first|(with_reducible assumption)|assumption);obtain ⟨ad594,e594,hx594_0⟩:=Kd.at_int HR0_0.out x11_3 p594 q594;cases e594;replace hx594_0:=(HB.out.cell (World.block_lt_of_cell? w _ hx594_0)).trans hx594_0;replace p594:=eq_true p594;replace q594:=eq_true q594));go_roundg k3
                case measure=>have:=HJ2.out;have:=HK2.out;have:=HK3.out;omega
                case rel=>exact ⟨(x7_3),(wrap64 (x11_3+1)),(by first|rfl|(simp;done)|(simp [*];done)),(by first|rfl|(simp;done)|(simp [*];done)),H',⟨by have:=HJ2.out;have:=HK2.out;have:=HK3.out;omega⟩,⟨uR HO_6⟩,⟨uK BK586⟩,⟨(vB HB)⟩⟩
              ·
               rw [if_neg c25] at H;exact absurd H (by simp)
             ·
              rw [if_neg c24] at H;exact absurd H (by simp)
           ·
            rw [if_neg c21] at H;have c21b0:=decide_eq_false c21;clear c21
            by_cases c34:0≤(rd l1 x25_2)
            ·
             rw [if_pos c34] at H;have c34b0:=eq_true c34;have c34b1:=decide_eq_true c34;clear c34;obtain ⟨ji35,hji35⟩: ∃ j_:Int,(shl .i64 1 (rd l1 x25_2))=j_:=⟨_,rfl⟩
             replace H:(Q4.l0 k3 t589 x7_3 (Go.bits .or .i64 x8_2 (ji35)) l1 (l1.length:Int) (wrap64 (x25_2+1)) l0_0)=some (r1,r2):=by first|(rw [hji35] at H;exact H)|(simp only [hji35] at H ⊢;exact H)
             have hji35_:(IntKind.i64.wrap (1*2 ^ min (rd l1 x25_2).toNat 64))=ji35:=hji35;have hji35z:(rd l1 x25_2)≤64→(IntKind.i64.wrap (1*2 ^ (rd l1 x25_2).toNat))=ji35:=Qea hji35;have hji35u:(IntKind.i64.wrap (2 ^ min (rd l1 x25_2).toNat 64))=ji35:=by have h_:=hji35_;rw [Int.one_mul] at h_;exact h_
             have hji35v:(rd l1 x25_2)≤64→(IntKind.i64.wrap (2 ^ (rd l1 x25_2).toNat))=ji35:=fun hle_=>by have h_:=hji35z hle_;rw [Int.one_mul] at h_;exact h_
             have hji35y:(wrap64 (1*2 ^ min (rd l1 x25_2).toNat 64))=ji35:=(Qcm _).symm.trans hji35_;have hji35x:(rd l1 x25_2)≤64→(wrap64 (1*2 ^ (rd l1 x25_2).toNat))=ji35:=fun h_=>(Qcm _).symm.trans (hji35z h_)
             have H':=Zk H;clear H;go_wp2;go_roundg k3
             case measure=>have:=HJ2.out;have:=HK2.out;have:=HK3.out;omega
             case rel=>exact ⟨(x7_3),(Go.bits .or .i64 x8_2 (ji35)),(wrap64 (x25_2+1)),(by first|rfl|(simp;done)|(simp [*];done)),(by first|rfl|(simp;done)|(simp only [←hji35] <;>(first|rfl|simp))|(simp [*];done)),(by first|rfl|(simp;done)|(simp [*];done)),H',⟨by have:=HJ2.out;have:=HK2.out;have:=HK3.out;omega⟩,⟨uR HO_6⟩,⟨uK BK586⟩,⟨(vB HB)⟩⟩
            ·
             rw [if_neg c34] at H;exact absurd H (by simp)
        ·
         rw [if_neg c20] at H;exact absurd H (by simp)
       ·
        rw [if_neg c19] at H;exact absurd H (by simp)
      ·
       rw [if_neg c18] at H;have c18b0:=decide_eq_false c18;clear c18;simp only [Option.some.injEq,Prod.mk.injEq] at H;obtain ⟨rfl,rfl⟩:=H;go_wp2
       go_ret2
       exact ⟨by first|rfl|(simp [Qe,Qf] <;>rfl)|(simp [*,Qe,Qf] <;>rfl),(vB HB)⟩
end Go.Proofs.YtkgngggppcmpfaaGreat.L
end
section
namespace Go.Proofs.YtkgngggppcmpfaaGreat.L
open Go.RowKit Go.Proofs.YtkgngggppcmpfaaGreatW.PrintWords Go.Proofs.YtkgngggppcmpfaaGreatW.PrintLast Go.Proofs.YtkgngggppcmpfaaGreatW.PrintMore
attribute [local go_sem] Qy Q0 Qbb Qbc Qp Qq Qz Q1
set_option linter.unusedVariables false
set_option linter.unusedSimpArgs false
def Ql.inn (k:Nat) (p x:List Int):Nat→List Int→Nat→List Int→Option (Nat × List Int)
 |0,_,_,_=>none
 |q+1,now,n,seen=>(if n=0 then some false else Qca.f k now x).bind fun b=>if b=true then some (n,seen) else (Q4.f k p now).bind fun t=>if seen.length<17592186044416∧n<1000000 then (Q8.f k p now 1).bind fun y=>Ql.inn k p x q y (n+1) (seen++ [t.1]) else none
def Ql.go (k:Nat) (p:List Int) (ab:Int):List (List Int)→Nat→List Int→List Int→Option (List Int)
 | [],_,out,_=>some out
 |x::ws,i,out,seen=>(Qct.f k seen (i:Int)).bind fun h=>if h=true then Ql.go k p ab ws (i+1) out seen else (Ql.inn k p x k x 0 seen).bind fun t=>if 1≤t.1 then (Qcz.f k out (ab / (t.1:Int))).bind fun o=>Ql.go k p ab ws (i+1) o t.2 else none
def Ql.f (k:Nat) (a b:Int):Option (List Int × Bool):=(Qcu.f a b).bind fun s=>if s=true then (if 0≤a∧a≤10∧0≤b∧b≤10 then (Qs.f k a b).bind fun p=>(Qcv.f k p).bind fun t=>if t.1.length≤1000000 then (Ql.go k p (a*b) t.1 0 [] []).bind fun o=>some (o,true) else none else none) else some ([],false)
theorem Ql.inn_mono (k:Nat) (p x:List Int): ∀ q now n seen,LeO (Ql.inn k p x q now n seen) (Ql.inn (k+1) p x (q+1) now n seen)
 |0,_,_,_=>fun r h=>by cases h
 |q+1,now,n,seen=>by
  rw [Ql.inn,Ql.inn];exact LeO.bind (LeO.ite (LeO.refl _) (Qca.mono _ _ _)) fun b=>LeO.ite (LeO.refl _) (LeO.bind (Q4.mono _ _ _) fun t=>LeO.ite (LeO.bind (Q8.mono _ _ _ _) fun y=>Ql.inn_mono k p x q _ _ _) (LeO.refl _))
theorem Ql.go_mono (k:Nat) (p:List Int) (ab:Int): ∀ ws i out seen,LeO (Ql.go k p ab ws i out seen) (Ql.go (k+1) p ab ws i out seen)
 | [],_,_,_=>LeO.refl _
 |x::ws,i,out,seen=>by
  rw [Ql.go,Ql.go];exact LeO.bind (Qct.mono _ _ _) fun h=>LeO.ite (Ql.go_mono k p ab ws _ _ _) (LeO.bind (Ql.inn_mono k p x k _ _ _) fun t=>LeO.ite (LeO.bind (Qcz.mono _ _ _) fun o=>Ql.go_mono k p ab ws _ _ _) (LeO.refl _))
theorem Ql.mono: ∀ a0 a1 k,LeO (Ql.f k a0 a1) (Ql.f (k+1) a0 a1):=by
 intro a b k;unfold Ql.f;exact LeO.bind (LeO.refl _) fun s=>LeO.ite (LeO.ite (LeO.bind (Qs.mono _ _ _) fun p=>LeO.bind (Qcv.mono _ _) fun t=>LeO.ite (LeO.bind (Ql.go_mono k p _ _ _ _ _) fun o=>LeO.refl _) (LeO.refl _)) (LeO.refl _)) (LeO.refl _)
open Go.Proofs.YtkgngggppcmpfaaGreat.X in
theorem Ql.row {W:World} {base:Nat} {ok:Nat→Prop} {ad:Addr} {n c:Nat} {xs:List (List Int)} (h:Kd.V (Kd.slice 3 (Kd.int .i64)) 24 W base ok (.slice (some ad) n c) xs) (i:Nat) (hi:i<xs.length):
 ∃ A1 c1,W.cell? (ad.add i)=some (.slice A1 xs[i].length c1)∧Kd.V (Kd.int .i64) 3 W base ok (.slice A1 xs[i].length c1) xs[i] :=by
 have hn:=(Kd.V_at h).1;obtain ⟨cs,_,hK,hc⟩:=Kd.V_get h ([] :List Int) (i:Int) (by omega) (by omega);rw [Int.toNat_natCast] at hK hc;have e:xs.getD i [] =xs[i] :=by simp [List.getD_eq_getElem?_getD,hi]
 rw [e] at hK;obtain ⟨A1,c1,rfl,hl,hF⟩:=Kd.FK_slice_open hK;have hq:=hc 0 _ rfl;have e1:i*(Kd.slice 3 (Kd.int .i64)).sz+0=i:=by show i*1+0=i;omega
 rw [e1] at hq;exact ⟨A1,c1,hq,Kd.V_mk hl hF⟩
open Go.Proofs.YtkgngggppcmpfaaGreat.X in
set_option maxHeartbeats 3200000 in
set_option maxRecDepth 100000 in
theorem Ql.calls (k:Nat) (a0:Int) (a1:Int) (r1:List Int) (r2:Bool) (w:World) (h:Ql.f k a0 a1=some (r1,r2)):
 Calls Tryz.prog 136 #[.int .i64 a0, .int .i64 a1] w fun e w'=> ∃ v0_:Value,e= .returned (.tuple #[v0_, .bool r2])∧Kd.R (Kd.int .i64) 3 w' w.heap.size (fun _=>True) v0_ r1∧Below w.heap.size w w':=by
 unfold Ql.f at h;obtain ⟨s,hs,h⟩:=Option.bind_eq_some_iff.mp h;have HS:=Zk hs;have hu:=Tryz.underlying26;clear hs
 by_cases hb:s=true
 ·
  rw [if_pos hb] at h;subst hb
  split at h
  ·
   rename_i hab;obtain ⟨p,hp,h⟩:=Option.bind_eq_some_iff.mp h;obtain ⟨⟨all,bA⟩,hA,h⟩:=Option.bind_eq_some_iff.mp h
   split at h
   ·
    rename_i hlen;obtain ⟨o,ho,h⟩:=Option.bind_eq_some_iff.mp h;simp only [Option.some.injEq,Prod.mk.injEq] at h;obtain ⟨rfl,rfl⟩:=h;have HP:=Zk hp;have HA:=Zk hA;have HG:=Zk ho;have HLN:=Zk (show all.length≤1000000 from hlen);have HAB:=Zk (show 0≤a0*a1∧a0*a1≤100 from ⟨Int.mul_nonneg hab.1 hab.2.2.1,Int.le_trans (Int.mul_le_mul hab.2.1 hab.2.2.2 hab.2.2.1 (by omega)) (by omega)⟩);clear hp hA ho hlen hab;go_enter Tryz.func136,Tryz.ntmps136;go_wp2_with (first|(go_at_call 203;refine (Qcu.calls a0 a1 true _ HS.out).mono ?_;rintro e w1 ⟨rfl,⟨nd,rfl⟩⟩)|(go_at_call 209;refine (Qs.calls k a0 a1 p _ HP.out).mono ?_;rintro e w2 ⟨vP,rfl,hr,hb⟩;have B2:=Zk (Qbp (Qk (Below.refl w.heap.size w) nd) hb);obtain ⟨Ap,cp,rfl⟩:=Kd.R_slice hr;have RP:=Zk hr;clear hr hb)|(go_at_call 269;refine (Qcv.calls k Ap cp p all bA _ (Kd.C_below (Kd.R_reads' RP.out).2.2 (Qj (Below.refl _ _) _)) (Kd.R_reads' RP.out).2.1 HA.out).mono ?_;rintro e w3 ⟨vA,rfl,hs,hb⟩;have B3:=Zk (Qbp (Qj B2.out (.cells #[.slice Ap p.length cp] 26)) hb);have BP:=Zk (show w3.heap[w2.heap.size]? =some (.cells #[.slice Ap p.length cp] 26 (0,0)) from Qbg (Qe9 _ _) hb);have VP:=Zk (Kd.V_apart_nil (Kd.V_below (Kd.V_below (Kd.R_V (base':=w.heap.size) RP.out) (Qj (Below.refl _ _) (.cells #[.slice Ap p.length cp] 26))) hb));have VA:=Zk (Kd.V_apart_nil (Kd.S_V (base':=w.heap.size) hs));obtain ⟨AA,cA,eA⟩:=Kd.V_slice VA.out;subst eA;clear hs hb))
    go_loopw [9,10,31] (fun v9 v10 v31 wr=> ∃ (i:Nat) (out seen:List Int),v31= .int .i64 (i:Int)∧i≤all.length∧Z0 (Ql.go k p (a0*a1) (all.drop i) i out seen=some o)∧Z0 (Kd.R (Kd.int .i64) 3 wr w.heap.size (fun k_=>True∧some k_≠(v10:Value).ownBlock) v9 out)∧Z0 (Kd.R (Kd.int .i64) 3 wr w.heap.size (fun _=>True) v10 seen)∧Z0 (Kd.V (Kd.int .i64) 3 wr w.heap.size (fun k_=>True∧some k_≠(v10:Value).ownBlock) (.slice Ap p.length cp) p)∧Z0 (Kd.V (Kd.slice 3 (Kd.int .i64)) 24 wr w.heap.size (fun k_=>True∧some k_≠(v10:Value).ownBlock) (.slice AA all.length cA) all)∧Z0 (wr.heap[w2.heap.size]? =some (.cells #[.slice Ap p.length cp] 26 (0,0)))∧Z0 (Below w.heap.size w wr)) (fun _ _ v31 _=>all.length - (intOf v31).toNat)
    case atStart=>exact ⟨0,[],[],rfl,Nat.zero_le _,⟨by rw [List.drop_zero];exact HG.out⟩,⟨Kd.R_nil _ _ _ _ _⟩,⟨Kd.R_nil _ _ _ _ _⟩,VP,VA,BP,B3⟩
    case round=>
     clear VP VA BP B3 HG RP B2;obtain ⟨i,out,seen,rfl,hi,HG,HO,HN,VP,VA,BP,HB⟩:=hrel;have e2:wrap64 ((i:Int)+1)=((i+1:Nat):Int):=by have:=HLN.out;unfold wrap64;omega
     have zP:=Qcs BP.out 0
     by_cases hlt:i<all.length
     ·
      have hG:=HG.out;rw [List.drop_eq_getElem_cons hlt,Ql.go] at hG;obtain ⟨hh,hhas,hG⟩:=Option.bind_eq_some_iff.mp hG;obtain ⟨ad,eA2⟩: ∃ ad,AA=some ad:=by
       obtain ⟨ad,_,_,e,_⟩:=row_at (Kd.V_reads' VA.out).2.2 i hlt;exact ⟨ad,e⟩
      subst eA2;obtain ⟨A1,c1,hx,hV1⟩:=Ql.row VA.out i hlt;obtain ⟨x,hxe⟩: ∃ x,x=all[i] :=⟨_,rfl⟩
      rw [←hxe] at hx hV1 hG;have V1:=Zk hV1;have HH:=Zk hhas;obtain ⟨As,cs,es⟩:=Kd.R_slice HN.out;subst es;clear hxe hV1 hhas;have p1:0≤((i:Nat):Int):=by omega
      have q1:((i:Nat):Int)<(all.length:Int):=by omega
      by_cases hc:hh=true
      ·
       rw [if_pos hc] at hG;subst hc;have HG2:=Zk hG;clear hG HG;go_wp2_with (first|(go_at_call 210;refine (Qct.calls k As cs seen (i:Int) true _ (Kd.R_reads' HN.out).2.2 (Kd.R_reads' HN.out).2.1 HH.out).mono ?_;rintro e w4 ⟨rfl,⟨nd,rfl⟩⟩));go_roundw
       case rel=>exact ⟨i+1,out,seen,by first|rfl|go_num,by omega,HG2,⟨Kd.R_drewN HO.out _⟩,⟨Kd.R_drewN HN.out _⟩,⟨Kd.V_drewN VP.out _⟩,⟨Kd.V_drewN VA.out _⟩,⟨Qcg BP.out _⟩,⟨Qk HB.out _⟩⟩
       case measure=>(try simp only [e2]);exact (Nat.sub_lt_sub_left (by omega) (Nat.lt_succ_self i):all.length - (i+1)<all.length - i)
      ·
       rw [if_neg hc] at hG;have hc:hh=false:=by simpa using hc
       subst hc;obtain ⟨⟨n1,seen1⟩,hinn,hG⟩:=Option.bind_eq_some_iff.mp hG
       split at hG
       ·
        rename_i hn1;obtain ⟨o1,ho1,hG⟩:=Option.bind_eq_some_iff.mp hG;have HI:=Zk hinn;have HO1:=Zk ho1;have HG2:=Zk hG;have HN1:=Zk (show 1≤n1 from hn1);clear hinn ho1 hG hn1 HG;go_wp2_with (first|(go_at_call 210;refine (Qct.calls k As cs seen (i:Int) false _ (Kd.R_reads' HN.out).2.2 (Kd.R_reads' HN.out).2.1 HH.out).mono ?_;rintro e w4 ⟨rfl,⟨nd,rfl⟩⟩))
        (try simp only [Act.put,List.setIfInBounds_toArray,List.set_cons_zero,List.set_cons_succ])
        go_loopg [10,13,14] k (fun kq v10 v13 v14 wi=> ∃ (now seen2:List Int) (n:Nat),v13= .int .i64 (n:Int)∧Z0 (Ql.inn k p x kq now n seen2=some (n1,seen1))∧Z0 (kq≤k)∧Z0 (n≤1000000)∧Z0 (Kd.V (Kd.int .i64) 3 wi w.heap.size (fun k_=>True∧some k_≠(v10:Value).ownBlock) v14 now)∧Z0 (Kd.R (Kd.int .i64) 3 wi w.heap.size (fun k_=>True∧some k_≠(v10:Value).ownBlock) u9 out)∧Z0 (Kd.R (Kd.int .i64) 3 wi w.heap.size (fun _=>True) v10 seen2)∧Z0 (Kd.V (Kd.int .i64) 3 wi w.heap.size (fun k_=>True∧some k_≠(v10:Value).ownBlock) (.slice Ap p.length cp) p)∧Z0 (Kd.V (Kd.int .i64) 3 wi w.heap.size (fun k_=>True∧some k_≠(v10:Value).ownBlock) (.slice A1 x.length c1) x)∧Z0 (Kd.V (Kd.slice 3 (Kd.int .i64)) 24 wi w.heap.size (fun k_=>True∧some k_≠(v10:Value).ownBlock) (.slice (some ad) all.length cA) all)∧Z0 (wi.heap[w2.heap.size]? =some (.cells #[.slice Ap p.length cp] 26 (0,0)))∧Z0 (Below w.heap.size w wi))
        case atStart=>exact ⟨x,seen,0,rfl,HI,⟨Nat.le_refl _⟩,⟨by omega⟩,⟨Kd.V_drewN V1.out _⟩,⟨Kd.R_drewN HO.out _⟩,⟨Kd.R_drewN HN.out _⟩,⟨Kd.V_drewN VP.out _⟩,⟨Kd.V_drewN V1.out _⟩,⟨Kd.V_drewN VA.out _⟩,⟨Qcg BP.out _⟩,⟨Qk HB.out _⟩⟩
        case round=>
         clear HI VP VA BP HB V1 HO HN zP;obtain ⟨now,seen2,n,rfl,HI,HK1,HNL,VN,HO,HN,VP,V1,VA,BP,HB⟩:=hrel;cases gk with
         |zero=>exact absurd HI.out (by simp [Ql.inn])
         |succ q=>
          have hI:=HI.out;rw [Ql.inn] at hI;obtain ⟨bb,hbb,hI⟩:=Option.bind_eq_some_iff.mp hI;obtain ⟨An,cn,en⟩:=Kd.V_slice VN.out;subst en;obtain ⟨As2,cs2,es2⟩:=Kd.R_slice HN.out;subst es2;have zP:=Qcs BP.out 0;clear HI;have HLT:=Zk hlt;have e3:wrap64 ((n:Int)+1)=((n+1:Nat):Int):=by have:=HNL.out;unfold wrap64;omega
          by_cases hc2:bb=true
          ·
           subst hc2;rw [if_pos rfl] at hI;simp only [Option.some.injEq,Prod.mk.injEq] at hI;obtain ⟨rfl,rfl⟩:=hI;have hn0:n≠0:=by have:=HN1.out;omega
           rw [if_neg hn0] at hbb;have HS2:=Zk hbb;have n0:((n:Int)==0)=false:=by rw [beq_eq_false_iff_ne];omega
           have n1_:0<(n:Int):=by omega
           have ab0:=HAB.out.1;have ab1:=HAB.out.2;obtain ⟨Ao,co,eo⟩:=Kd.R_slice HO.out;subst eo;clear hbb hn0;go_wp2_with (first|(go_at_call 270;refine (Qca.calls k An cn now A1 c1 x true _ (Kd.V_reads' VN.out).2.2 (Kd.V_reads' VN.out).2.1 (Kd.V_reads' V1.out).2.2 (Kd.V_reads' V1.out).2.1 HS2.out).mono ?_;rintro e w5 ⟨rfl,⟨nd2,rfl⟩⟩)|(go_at_call 212;refine (Qcz.calls k Ao co out _ o1 _ (Kd.R_reads' (Kd.R_drewN HO.out _)).2.2 (Kd.R_reads' HO.out).2.1 HO1.out).mono ?_;rintro e w6 ⟨v69,rfl,hr,hb⟩;have HB6:=Zk (Qbp (Qk HB.out nd2) hb);have HN6:=Zk (Kd.R_below (Kd.R_drewN HN.out nd2) hb);have VP6:=Zk (Kd.V_below (Kd.V_drewN VP.out nd2) hb);have VA6:=Zk (Kd.V_below (Kd.V_drewN VA.out nd2) hb);have BP6:=Zk (Qbg (Qcg BP.out nd2) hb);have HO6:=Zk (show Kd.R (Kd.int .i64) 3 w6 w.heap.size (fun k_=>True∧some k_≠(Value.slice As2 seen2.length cs2).ownBlock) v69 o1 from Kd.R_lower (Kd.R_mono (Kd.R_bound hr) (fun k_ hk=>⟨trivial,fun e=>by have:=Kd.R_lt (Kd.R_drewN HN.out nd2) k_ e.symm;have:=hk.2.1;omega⟩)) (Qk HB.out nd2).size);clear hr hb));go_roundw
           case rel=>exact ⟨i+1,o1,seen2,by first|rfl|go_num,by have:=HLT.out;omega,HG2,HO6,HN6,VP6,VA6,BP6,HB6⟩
           case measure=>(try simp only [e2]);have:=HLT.out;exact (Nat.sub_lt_sub_left (by omega) (Nat.lt_succ_self i):all.length - (i+1)<all.length - i)
          ·
           rw [if_neg hc2] at hI;have hc2:bb=false:=by simpa using hc2
           subst hc2;obtain ⟨⟨t1,t2⟩,hrl,hI⟩:=Option.bind_eq_some_iff.mp hI
           split at hI
           ·
            rename_i hsl;obtain ⟨y,hpr,hI⟩:=Option.bind_eq_some_iff.mp hI;have HRL:=Zk hrl;have HSL:=Zk hsl.1;have HNB:=Zk hsl.2;have HPR:=Zk hpr;have HI2:=Zk hI;clear hrl hsl hpr hI
            by_cases hn0:n=0
            ·
             have n0:((n:Int)==0)=true:=by rw [hn0];rfl
             clear hbb hn0;go_wp2_with (first|(go_at_call 272;refine (Q4.calls k Ap cp p An cn now t1 t2 _ (Kd.V_reads' VP.out).2.2 (Kd.V_reads' VP.out).2.1 (Kd.V_reads' VN.out).2.2 (Kd.V_reads' VN.out).2.1 HRL.out).mono ?_;rintro e w6 ⟨rfl,hb⟩;have HB6:=Zk (Qbp HB.out hb);have HN6:=Zk (Kd.R_below HN.out hb);have HO6:=Zk (Kd.R_below HO.out hb);have VP6:=Zk (Kd.V_below VP.out hb);have VA6:=Zk (Kd.V_below VA.out hb);have V16:=Zk (Kd.V_below V1.out hb);have VN6:=Zk (Kd.V_below VN.out hb);have BP6:=Zk (Qbg BP.out hb);have zP6:=Qcs BP6.out 0;clear hb)|((with_reducible refine Qb1 (b:= .append) (xs:= #[.tmp 57, .tmp 59]) rfl ?_);at_builtin;refine Kd.R_append (Kd.int .i64) (w0:=w) w.heap.size rfl (.tmp 57) (.tmp 59) 24 3 (.int .i64 0) 8 rfl Tryz.underlying24 Qdq rfl (by decide) (by omega) (.slice As2 seen2.length cs2) seen2 t1 [.int .i64 t1] (fun _=>True) (fun _=>False) rfl rfl ?aP (fun _ hk=>hk.elim) ?aF ?aO ?aB ?aS ?aL ?_;(case aP=>exact rfl);(case aF=>exact fun _ _=>trivial);(case aO=>exact HN6.out);(case aB=>exact HB6.out);(case aS=>exact HB6.out.size);(case aL=>have:=HSL.out;omega);intro v60 w7 ho hb hg hat;have HN7:=Zk ho;have HB7:=Zk hb;have HO7:=Zk (Kd.R_after (ok:=fun _=>True) HO6.out hg hat);have VP7:=Zk (Kd.V_after VP6.out hg hat);have VA7:=Zk (Kd.V_after VA6.out hg hat);have V17:=Zk (Kd.V_after V16.out hg hat);have VN7:=Zk (Kd.V_after VN6.out hg hat);have BP7:=Zk (Qc8 BP6.out hg (Kd.R_ne HN6.out BP6.out (by decide)));have zP7:=Qcs BP7.out 0;clear ho hb hg hat)|(go_at_call 271;refine (Q8.calls k Ap cp p _ An cn now 1 y _ (Kd.V_reads' VP7.out).2.2 (Kd.V_reads' VP7.out).2.1 VN7.out HPR.out).mono ?_;rintro e w8 ⟨v50,rfl,hr,hb⟩;have HB8:=Zk (Qbp HB7.out hb);have HN8:=Zk (Kd.R_below HN7.out hb);have HO8:=Zk (Kd.R_below HO7.out hb);have VP8:=Zk (Kd.V_below VP7.out hb);have VA8:=Zk (Kd.V_below VA7.out hb);have V18:=Zk (Kd.V_below V17.out hb);have BP8:=Zk (Qbg BP7.out hb);have VY8:=Zk (show Kd.V (Kd.int .i64) 3 w8 w.heap.size (fun k_=>True∧some k_≠(v60:Value).ownBlock) v50 y from Kd.V_mono (Kd.R_V (ok:=fun k_=>w7.heap.size≤k_) hr) (fun k_ hk=>⟨trivial,fun e=>by have:=Kd.R_lt HN7.out k_ e.symm;omega⟩));clear hr hb));go_roundg q
             case measure=>have:=HK1.out;omega
             case rel=>exact ⟨y,seen2++ [t1],n+1,by first|rfl|go_num,HI2,⟨by have:=HK1.out;omega⟩,⟨by have:=HNB.out;omega⟩,VY8,HO8,HN8,VP8,V18,VA8,BP8,HB8⟩
            ·
             rw [if_neg hn0] at hbb;have HS2:=Zk hbb;have n0:((n:Int)==0)=false:=by rw [beq_eq_false_iff_ne];omega
             clear hbb hn0;go_wp2_with (first|(go_at_call 270;refine (Qca.calls k An cn now A1 c1 x false _ (Kd.V_reads' VN.out).2.2 (Kd.V_reads' VN.out).2.1 (Kd.V_reads' V1.out).2.2 (Kd.V_reads' V1.out).2.1 HS2.out).mono ?_;rintro e w5 ⟨rfl,⟨nd2,rfl⟩⟩)|(go_at_call 272;refine (Q4.calls k Ap cp p An cn now t1 t2 _ (Kd.V_reads' (Kd.V_drewN VP.out nd2)).2.2 (Kd.V_reads' VP.out).2.1 (Kd.V_reads' (Kd.V_drewN VN.out nd2)).2.2 (Kd.V_reads' VN.out).2.1 HRL.out).mono ?_;rintro e w6 ⟨rfl,hb⟩;have HB6:=Zk (Qbp (Qk HB.out nd2) hb);have HN6:=Zk (Kd.R_below (Kd.R_drewN HN.out nd2) hb);have HO6:=Zk (Kd.R_below (Kd.R_drewN HO.out nd2) hb);have VP6:=Zk (Kd.V_below (Kd.V_drewN VP.out nd2) hb);have VA6:=Zk (Kd.V_below (Kd.V_drewN VA.out nd2) hb);have V16:=Zk (Kd.V_below (Kd.V_drewN V1.out nd2) hb);have VN6:=Zk (Kd.V_below (Kd.V_drewN VN.out nd2) hb);have BP6:=Zk (Qbg (Qcg BP.out nd2) hb);have zP6:=Qcs BP6.out 0;clear hb)|((with_reducible refine Qb1 (b:= .append) (xs:= #[.tmp 57, .tmp 59]) rfl ?_);at_builtin;refine Kd.R_append (Kd.int .i64) (w0:=w) w.heap.size rfl (.tmp 57) (.tmp 59) 24 3 (.int .i64 0) 8 rfl Tryz.underlying24 Qdq rfl (by decide) (by omega) (.slice As2 seen2.length cs2) seen2 t1 [.int .i64 t1] (fun _=>True) (fun _=>False) rfl rfl ?aP (fun _ hk=>hk.elim) ?aF ?aO ?aB ?aS ?aL ?_;(case aP=>exact rfl);(case aF=>exact fun _ _=>trivial);(case aO=>exact HN6.out);(case aB=>exact HB6.out);(case aS=>exact HB6.out.size);(case aL=>have:=HSL.out;omega);intro v60 w7 ho hb hg hat;have HN7:=Zk ho;have HB7:=Zk hb;have HO7:=Zk (Kd.R_after (ok:=fun _=>True) HO6.out hg hat);have VP7:=Zk (Kd.V_after VP6.out hg hat);have VA7:=Zk (Kd.V_after VA6.out hg hat);have V17:=Zk (Kd.V_after V16.out hg hat);have VN7:=Zk (Kd.V_after VN6.out hg hat);have BP7:=Zk (Qc8 BP6.out hg (Kd.R_ne HN6.out BP6.out (by decide)));have zP7:=Qcs BP7.out 0;clear ho hb hg hat)|(go_at_call 271;refine (Q8.calls k Ap cp p _ An cn now 1 y _ (Kd.V_reads' VP7.out).2.2 (Kd.V_reads' VP7.out).2.1 VN7.out HPR.out).mono ?_;rintro e w8 ⟨v50,rfl,hr,hb⟩;have HB8:=Zk (Qbp HB7.out hb);have HN8:=Zk (Kd.R_below HN7.out hb);have HO8:=Zk (Kd.R_below HO7.out hb);have VP8:=Zk (Kd.V_below VP7.out hb);have VA8:=Zk (Kd.V_below VA7.out hb);have V18:=Zk (Kd.V_below V17.out hb);have BP8:=Zk (Qbg BP7.out hb);have VY8:=Zk (show Kd.V (Kd.int .i64) 3 w8 w.heap.size (fun k_=>True∧some k_≠(v60:Value).ownBlock) v50 y from Kd.V_mono (Kd.R_V (ok:=fun k_=>w7.heap.size≤k_) hr) (fun k_ hk=>⟨trivial,fun e=>by have:=Kd.R_lt HN7.out k_ e.symm;omega⟩));clear hr hb));go_roundg q
             case measure=>have:=HK1.out;omega
             case rel=>exact ⟨y,seen2++ [t1],n+1,by first|rfl|go_num,HI2,⟨by have:=HK1.out;omega⟩,⟨by have:=HNB.out;omega⟩,VY8,HO8,HN8,VP8,V18,VA8,BP8,HB8⟩
           ·
            cases hI
       ·
        cases hG
     ·
      have e1:o=out:=by
       have:=HG.out;rw [List.drop_of_length_le (by omega),Ql.go] at this;exact (Option.some.inj this).symm
      subst e1;go_wp2
      go_ret2
      exact ⟨_,rfl,Kd.R_mono HO.out (fun _ _=>trivial),HB.out⟩
   ·
    cases h
  ·
   cases h
 ·
  rw [if_neg hb] at h;have hb:s=false:=by simpa using hb
  subst hb;simp only [Option.some.injEq,Prod.mk.injEq] at h;obtain ⟨rfl,rfl⟩:=h;go_enter Tryz.func136,Tryz.ntmps136;go_wp2_with (first|(go_at_call 203;refine (Qcu.calls a0 a1 false _ HS.out).mono ?_;rintro e w1 ⟨rfl,⟨nd,rfl⟩⟩))
  go_ret2
  exact ⟨_,rfl,Kd.R_nil _ _ _ _ _,Qk (Below.refl _ _) _⟩
end Go.Proofs.YtkgngggppcmpfaaGreat.L
end
section
namespace Go.Proofs.YtkgngggppcmpfaaGreat.L
open Go.RowKit Go.Proofs.YtkgngggppcmpfaaGreatW.PrintWords Go.Proofs.YtkgngggppcmpfaaGreatW.PrintLast Go.Proofs.YtkgngggppcmpfaaGreatW.PrintMore Go.Proofs.YtkgngggppcmpfaaGreat.X
attribute [local go_sem] Qy Q0 Qbb Qbc Qp Qq Qz Q1
set_option linter.unusedVariables false
set_option linter.unusedSimpArgs false
def Qdu.f (s0_0:List Int) (s0_1:Int) (s0_2:Int) (l1:List Int):Option (Int × Int × Int):=(Qn.f s0_0 s0_1 s0_2 (l1.length:Int)).bind fun bt596=>(if 0≤bt596.1 then (if bt596.1<(l1.length:Int) then (some (rd l1 bt596.1,bt596.2.1,bt596.2.2)) else (none)) else (none))
set_option maxHeartbeats 8000000 in
set_option maxRecDepth 100000 in
theorem Qdu.calls (g:Nat) (s0_0:List Int) (s0_1:Int) (s0_2:Int) (A1:Option Addr) (c1:Nat) (l1:List Int) (r1:Int) (r2:Int) (r3:Int) (w0 w:World) (hI:Qa w0 w g s0_0 s0_1 s0_2) (hB:Below w0.heap.size w0 w) (hr1:Kd.C (Kd.int .i64) w A1 l1.length l1) (hc1:l1.length≤c1) (hf1: ∀ ad,A1=some ad→0<l1.length→ad.block≠g) (h:Qdu.f s0_0 s0_1 s0_2 l1=some (r1,r2,r3)):
 Calls Tryz.prog 190 #[.pointer (some ⟨g,0,none⟩), .slice A1 l1.length c1] w fun e w'=>e= .returned (.int .i64 r1)∧Qa w0 w' g s0_0 r2 r3∧Below w0.heap.size w0 w'∧Qg w w' g none:=by
 have HR1:=Zk hr1;have HC1:=Zk hc1;clear hr1 hc1;have HI0:=Zk hI;have HK:=Zk (Qg.refl w g none);have HL:=Zk hB.size;clear hI;have HW0:=Zk hB.size;have HB:=Zk hB;clear hB;have H:((Qn.f s0_0 s0_1 s0_2 (l1.length:Int)).bind fun bt596=>(if 0≤bt596.1 then (if bt596.1<(l1.length:Int) then (some (rd l1 bt596.1,bt596.2.1,bt596.2.2)) else (none)) else (none)))=some (r1,r2,r3):=h;clear h;obtain ⟨⟨t596,t597,t598⟩,A3,H⟩:=bs H;(try dsimp only at H)
 by_cases c4:0≤t596
 ·
  rw [if_pos c4] at H;have c4b0:=decide_eq_true c4;clear c4
  by_cases c5:t596<(l1.length:Int)
  ·
   rw [if_pos c5] at H;have c5b0:=decide_eq_true c5;clear c5;simp only [Option.some.injEq,Prod.mk.injEq] at H;obtain ⟨rfl,rfl,rfl⟩:=H;go_enter Tryz.func190,Tryz.ntmps190;go_wp2_with (first|(refine gA (some 9) Tryz.func162 #[.pointer (some ⟨g,0,none⟩), .int .i64 (l1.length:Int)] ?_;(with_reducible refine (Qn.calls g s0_0 s0_1 s0_2 (l1.length:Int) t596 t597 t598 w0 _ (Qa.vI HI0) (Qa.vB HB) A3.out).mono ?_);rintro e w6 ⟨rfl,hi,hb,hk⟩;refine ⟨_,rfl,?_⟩;replace HK:=Zk (Qg.trans (vK HK) hk (.inl rfl));replace HB:=Zk (hb);replace HI0:=Zk (hi);(try clear hb hk hi);have p599:0≤(t596:Int):=of_decide_eq_true (by first|(with_reducible assumption)|assumption);have q599:t596<(l1.length:Int):=of_decide_eq_true (by first|(with_reducible assumption)|assumption);obtain ⟨ad599,e599,hx599_0⟩:=Kd.at_int HR1.out t596 p599 q599;cases e599;replace hx599_0:=Qg3 HK.out hx599_0 (by first|(rw [Qfb];exact hf1 _ rfl (by omega))|exact hf1 _ rfl (by omega)|exact hf1 ad599 rfl (by omega));replace p599:=eq_true p599;replace q599:=eq_true q599))
   go_ret
   exact ⟨by first|rfl|(simp [Qe,Qf] <;>rfl)|(simp [*,Qe,Qf] <;>rfl),(Qa.vI HI0),(Qa.vB HB),(vK HK)⟩
  ·
   rw [if_neg c5] at H;exact absurd H (by simp)
 ·
  rw [if_neg c4] at H;exact absurd H (by simp)
def Qdl.f (s0_0:List Int) (s0_1:Int) (s0_2:Int):Option (Int × Int × Int):=(Qbq.f s0_0 s0_1 s0_2 10).bind fun bt600=>(if bt600.1=true then ((Qdu.f s0_0 bt600.2.1 bt600.2.2 (([(-1),60,61] :List Int))).bind fun bt606=>(some (bt606.1,bt606.2.1,bt606.2.2))) else ((Qn.f s0_0 bt600.2.1 bt600.2.2 14).bind fun bt609=>(some (bt609.1,bt609.2.1,bt609.2.2))))
set_option maxHeartbeats 8000000 in
set_option maxRecDepth 100000 in
theorem Qdl.calls (g:Nat) (s0_0:List Int) (s0_1:Int) (s0_2:Int) (r1:Int) (r2:Int) (r3:Int) (w0 w:World) (hI:Qa w0 w g s0_0 s0_1 s0_2) (hB:Below w0.heap.size w0 w) (h:Qdl.f s0_0 s0_1 s0_2=some (r1,r2,r3)):
 Calls Tryz.prog 214 #[.pointer (some ⟨g,0,none⟩)] w fun e w'=>e= .returned (.int .i64 r1)∧Qa w0 w' g s0_0 r2 r3∧Below w0.heap.size w0 w'∧Qg w w' g none:=by
 have HI0:=Zk hI;have HK:=Zk (Qg.refl w g none);have HL:=Zk hB.size;clear hI;have HW0:=Zk hB.size;have HB:=Zk hB;clear hB;have H:((Qbq.f s0_0 s0_1 s0_2 10).bind fun bt600=>(if bt600.1=true then ((Qdu.f s0_0 bt600.2.1 bt600.2.2 (([(-1),60,61] :List Int))).bind fun bt606=>(some (bt606.1,bt606.2.1,bt606.2.2))) else ((Qn.f s0_0 bt600.2.1 bt600.2.2 14).bind fun bt609=>(some (bt609.1,bt609.2.1,bt609.2.2)))))=some (r1,r2,r3):=h;clear h;obtain ⟨⟨t600,t601,t602⟩,A2,H⟩:=bs H;(try dsimp only at H)
 by_cases c3:t600=true
 ·
  subst c3;rw [if_pos rfl] at H;obtain ⟨y603,hy603⟩: ∃ y_:List Int,y_=(([(-1),60,61] :List Int)):=⟨_,rfl⟩
  replace H:((Qdu.f s0_0 t601 t602 y603).bind fun bt606=>(some (bt606.1,bt606.2.1,bt606.2.2)))=some (r1,r2,r3):=by first|(rw [hy603];with_reducible exact H)|(have H2_:=(Option.bind_some _ _).symm.trans H;rw [hy603];with_reducible exact H2_)|(have H2_:=(Option.bind_some _ _).symm.trans H;with_reducible exact H2_)|with_reducible exact H|(rw [hy603];exact H)|exact H
  have Ny603:=Zk hy603;clear hy603;obtain ⟨⟨t606,t607,t608⟩,A4,H⟩:=bs H;(try dsimp only at H)
  simp only [Option.some.injEq,Prod.mk.injEq] at H;obtain ⟨rfl,rfl,rfl⟩:=H;go_enter Tryz.func214,Tryz.ntmps214;go_wp2_with (first|(refine gA (some 4) Tryz.func161 #[.pointer (some ⟨g,0,none⟩), .int .i64 10] ?_;(with_reducible refine (Qbq.calls g s0_0 s0_1 s0_2 10 true t601 t602 w0 _ (Qa.vI HI0) (Qa.vB HB) A2.out).mono ?_);rintro e w5 ⟨rfl,hi,hb,hk⟩;refine ⟨_,rfl,?_⟩;replace HK:=Zk (Qg.trans (vK HK) hk (.inl rfl));replace HB:=Zk (hb);replace HI0:=Zk (hi);(try clear hb hk hi))|((with_reducible refine Qu (N:=6) rfl ?_);refine Kd.R_lit (Kd.int .i64) _ 3 ?hg (N:=6) ?hd (xs:=([(-1),60,61] :List Int)) (inner:= [.int .i64 (-1), .int .i64 60, .int .i64 61]) (ok:=fun _=>True) (okp:=fun _=>True) ?hr ?hp (fun _ hk=>hk) trivial (Below.refl _ _) (Nat.le_refl _) (by simp) ?_;(case hd=>rfl);(case hg=>rfl);(case hr=>first|(go_simp;done)|(go_simp;rfl));(case hp=>exact (Reps.one (show Kd.M (Kd.int .i64) _ _ _ (-1) [.int .i64 (-1)] from rfl) (Reps.one (show Kd.M (Kd.int .i64) _ _ _ 60 [.int .i64 60] from rfl) (Reps.one (show Kd.M (Kd.int .i64) _ _ _ 61 [.int .i64 61] from rfl) (Reps.none _ _)))));intro v604 w6 ho7 hb hg_ hnew_;clear hg_ hnew_;(first|rw [←Ny603.out] at ho7|(simp only [Int.reduceToNat] at ho7;rw [←Ny603.out] at ho7));have HO605:=Zk (Kd.R_lower ho7 (Qbe (w:=w) (g:=g) (row:=none) (vK HK)));replace HI0:=Zk (Qa.below (Qa.vI HI0) hb);replace HK:=Zk (Qg.trans (vK HK) (Qg.of_below hb g none) (.inl rfl));replace HB:=Zk (Qb (Qa.vB HB) hb);clear hb ho7;obtain ⟨Ao8,co8,eo8⟩:=Kd.R_slice HO605.out;subst eo8)|(refine gA (some 7) Tryz.func190 #[.pointer (some ⟨g,0,none⟩), .slice Ao8 y603.length co8] ?_;(with_reducible refine (Qdu.calls g s0_0 t601 t602 _ _ y603 t606 t607 t608 w0 _ (Qa.vI HI0) (Qa.vB HB) (uE HO605) ?side4 ?side5 A4.out).mono ?_);(case side4=>exact (Kd.R_reads' HO605.out).2.1);(case side5=>exact Qic (Qa.own_ne HI0.out HO605.out (by decide)));rintro e w9 ⟨rfl,hi,hb,hk⟩;refine ⟨_,rfl,?_⟩;replace HO605:=Zk (Kd.R_mono (Kd.R_keep (Qa.apart (show Qa w0 _ g s0_0 t601 t602 from (Qa.vI HI0)) (uR HO605) (by decide)) hk (fun _ h=>h.2)) (fun _ h=>h.1));replace HK:=Zk (Qg.trans (vK HK) hk (.inl rfl));replace HB:=Zk (hb);replace HI0:=Zk (hi);(try clear hb hk hi)))
  go_ret
  exact ⟨by first|rfl|(simp [Qe,Qf] <;>rfl)|(simp [*,Qe,Qf] <;>rfl),(Qa.vI HI0),(Qa.vB HB),(vK HK)⟩
 ·
  replace c3:=Bool.eq_false_iff.mpr c3;subst c3;rw [if_neg (show ¬ (false=true) by decide)] at H;obtain ⟨⟨t609,t610,t611⟩,A10,H⟩:=bs H;(try dsimp only at H)
  simp only [Option.some.injEq,Prod.mk.injEq] at H;obtain ⟨rfl,rfl,rfl⟩:=H;go_enter Tryz.func214,Tryz.ntmps214;go_wp2_with (first|(refine gA (some 4) Tryz.func161 #[.pointer (some ⟨g,0,none⟩), .int .i64 10] ?_;(with_reducible refine (Qbq.calls g s0_0 s0_1 s0_2 10 false t601 t602 w0 _ (Qa.vI HI0) (Qa.vB HB) A2.out).mono ?_);rintro e w11 ⟨rfl,hi,hb,hk⟩;refine ⟨_,rfl,?_⟩;replace HK:=Zk (Qg.trans (vK HK) hk (.inl rfl));replace HB:=Zk (hb);replace HI0:=Zk (hi);(try clear hb hk hi))|(refine gA (some 9) Tryz.func162 #[.pointer (some ⟨g,0,none⟩), .int .i64 14] ?_;(with_reducible refine (Qn.calls g s0_0 t601 t602 14 t609 t610 t611 w0 _ (Qa.vI HI0) (Qa.vB HB) A10.out).mono ?_);rintro e w12 ⟨rfl,hi,hb,hk⟩;refine ⟨_,rfl,?_⟩;replace HK:=Zk (Qg.trans (vK HK) hk (.inl rfl));replace HB:=Zk (hb);replace HI0:=Zk (hi);(try clear hb hk hi)))
  go_ret
  exact ⟨by first|rfl|(simp [Qe,Qf] <;>rfl)|(simp [*,Qe,Qf] <;>rfl),(Qa.vI HI0),(Qa.vB HB),(vK HK)⟩
def Qed.f (l0:List Int):Option (Int × Int × Int):=(Qc9.f l0 0 0).bind fun bt613=>((Qdl.f l0 bt613.2.2.1 bt613.2.2.2).bind fun bt617=>(some (bt613.1,bt613.2.1,bt617.1)))
set_option maxHeartbeats 8000000 in
set_option maxRecDepth 100000 in
theorem Qed.calls (A0:Option Addr) (c0:Nat) (l0:List Int) (r1:Int) (r2:Int) (r3:Int) (w:World) (hr0:Kd.C (Kd.int .u8) w A0 l0.length l0) (hc0:l0.length≤c0) (h:Qed.f l0=some (r1,r2,r3)):
 Calls Tryz.prog 65 #[.slice A0 l0.length c0] w fun e w'=>e= .returned (.tuple #[.int .i64 r1, .int .i64 r2, .int .i64 r3])∧Below w.heap.size w w':=by
 have hu94:=Tryz.underlying94;have HR0:=Zk hr0;have HC0:=Zk hc0;clear hr0 hc0;have HB:=Zk (Below.refl w.heap.size w);have H:((Qc9.f l0 0 0).bind fun bt613=>((Qdl.f l0 bt613.2.2.1 bt613.2.2.2).bind fun bt617=>(some (bt613.1,bt613.2.1,bt617.1))))=some (r1,r2,r3):=h;clear h;obtain ⟨⟨t613,t614,t615,t616⟩,A2,H⟩:=bs H;(try dsimp only at H)
 obtain ⟨⟨t617,t618,t619⟩,A3,H⟩:=bs H;(try dsimp only at H)
 simp only [Option.some.injEq,Prod.mk.injEq] at H;obtain ⟨rfl,rfl,rfl⟩:=H;go_enter Tryz.func65,Tryz.ntmps65;go_wp2_with (first|((with_reducible refine Qu (N:=10) rfl ?_);refine Qfh ?hg (N:=10) ?hd (cs:= #[.slice A0 l0.length c0, .int .i64 0, .int .u64 0]) (t:=94) ?hr ?_;(case hd=>rfl);(case hg=>rfl);(case hr=>first|(go_simp;done)|(go_simp;rfl));intro gb612 hg w4 hbox hb;have HI612:=Zk ((⟨_,_,hbox,(by rw [hg];exact (Qh (by repeat (first|(with_reducible first|exact HB.out|apply Qj|apply Qk|apply Q2)|exact HB.out))):w.heap.size≤gb612),HR0.out⟩:Qa w _ gb612 l0 0 0));have GW612:=Zk ((by rw [hg];exact (Qh (by repeat (first|(with_reducible first|exact HB.out|apply Qj|apply Qk|apply Q2)|exact HB.out))):w.heap.size≤gb612));have GE612:=GW612;replace HB:=Zk (Qb (by repeat (first|(with_reducible first|exact HB.out|apply Qj|apply Qk|apply Q2)|exact HB.out)) hb);clear hb hbox hg)|((with_reducible refine Qc5 (f:=213) rfl ?_);refine Qd3 (some 13) rfl rfl Tryz.func213 (by kernel_rfl) rfl #[.pointer (some ⟨gb612,0,none⟩)] rfl (by (try simp only [List.map_toArray,List.map_cons,List.map_nil]);first|done|rfl|(simp only [List.length_drop,List.length_take];rfl)) ?_;(with_reducible refine (Qc9.calls gb612 l0 0 0 t613 t614 t615 t616 w _ ?side1 ?side2 A2.out).mono ?_);(case side1=>repeat (first|(with_reducible first|exact HI612.out|apply Qa.alloc|apply Qa.drewN|apply Qa.drew|apply Qa.set_1|apply Qa.set_2)|exact HI612.out));(case side2=>repeat (first|(with_reducible first|exact HB.out|apply Qj|apply Qk|apply Q2|refine Qbt ?_ (Qa.ge HI612.out))|exact HB.out));rintro e w5 ⟨rfl,hi,hb,hk⟩;refine ⟨_,rfl,?_⟩;replace HB:=Zk (hb);replace HI612:=Zk (hi);(try clear hb);(try clear hb2);(try clear hk);(try clear hi))|((with_reducible refine Qc5 (f:=214) rfl ?_);refine Qd3 (some 19) rfl rfl Tryz.func214 (by kernel_rfl) rfl #[.pointer (some ⟨gb612,0,none⟩)] rfl (by (try simp only [List.map_toArray,List.map_cons,List.map_nil]);first|done|rfl|(simp only [List.length_drop,List.length_take];rfl)) ?_;(with_reducible refine (Qdl.calls gb612 l0 t615 t616 t617 t618 t619 w _ ?side1 ?side2 A3.out).mono ?_);(case side1=>repeat (first|(with_reducible first|exact HI612.out|apply Qa.alloc|apply Qa.drewN|apply Qa.drew|apply Qa.set_1|apply Qa.set_2)|exact HI612.out));(case side2=>repeat (first|(with_reducible first|exact HB.out|apply Qj|apply Qk|apply Q2|refine Qbt ?_ (Qa.ge HI612.out))|exact HB.out));rintro e w6 ⟨rfl,hi,hb,hk⟩;refine ⟨_,rfl,?_⟩;replace HB:=Zk (hb);replace HI612:=Zk (hi);(try clear hb);(try clear hb2);(try clear hk);(try clear hi)))
 go_ret3
 exact ⟨by first|rfl|(simp [Qe,Qf] <;>rfl)|(simp [*,Qe,Qf] <;>rfl),(Qa.vB HB)⟩
def Qd4.f (l0:List Int):Option (Int × Int × Int):=(Qed.f l0).bind fun bt620=>(some (bt620.1,bt620.2.1,bt620.2.2))
set_option maxHeartbeats 8000000 in
set_option maxRecDepth 100000 in
theorem Qd4.calls (A0:Option Addr) (c0:Nat) (l0:List Int) (r1:Int) (r2:Int) (r3:Int) (w:World) (hr0:Kd.C (Kd.int .u8) w A0 l0.length l0) (hc0:l0.length≤c0) (h:Qd4.f l0=some (r1,r2,r3)):
 Calls Tryz.prog 137 #[.slice A0 l0.length c0] w fun e w'=>e= .returned (.tuple #[.int .i64 r1, .int .i64 r2, .int .i64 r3])∧Below w.heap.size w w':=by
 have HR0:=Zk hr0;have HC0:=Zk hc0;clear hr0 hc0;have HB:=Zk (Below.refl w.heap.size w);have H:((Qed.f l0).bind fun bt620=>(some (bt620.1,bt620.2.1,bt620.2.2)))=some (r1,r2,r3):=h;clear h;obtain ⟨⟨t620,t621,t622⟩,A2,H⟩:=bs H;(try dsimp only at H)
 simp only [Option.some.injEq,Prod.mk.injEq] at H;obtain ⟨rfl,rfl,rfl⟩:=H;go_enter Tryz.func137,Tryz.ntmps137;go_wp2_with (first|(refine gA (some 6) Tryz.func65 #[.slice A0 l0.length c0] ?_;(with_reducible refine (Qed.calls _ _ l0 t620 t621 t622 _ (uC HR0) HC0.out A2.out).mono ?_);rintro e w3 ⟨rfl,hb⟩;refine ⟨_,rfl,?_⟩;replace HB:=Zk (Qb (uB HB) hb);(try clear hb)))
 go_ret3
 exact ⟨by first|rfl|(simp [Qe,Qf] <;>rfl)|(simp [*,Qe,Qf] <;>rfl),uB HB⟩
end Go.Proofs.YtkgngggppcmpfaaGreat.L
end
section
namespace Go.Proofs.YtkgngggppcmpfaaGreat.L
open Go.RowKit Go.Proofs.YtkgngggppcmpfaaGreatW.PrintWords Go.Proofs.YtkgngggppcmpfaaGreatW.PrintLast Go.Proofs.YtkgngggppcmpfaaGreatW.PrintMore
attribute [local go_sem] Qy Q0 Qbb Qbc Qp Qq Qz Q1
set_option linter.unusedVariables false
set_option linter.unusedSimpArgs false
def Qcy.l0:Nat→Int→Int→List Int→Int→Int→Option (Int)
 |0,_,_,_,_,_=>none
 |k+1,x1,x5,x8,x9,x10=>if x10<x9 then (if 0≤x10 then (if x10<(x8.length:Int) then (if (rd x8 x10)=0 then (none) else (if (Int.tmod x1 (rd x8 x10))=0 then (Qcy.l0 k x1 (wrap64 (x5+(rd x8 x10))) x8 x9 (wrap64 (x10+1))) else (Qcy.l0 k x1 x5 x8 x9 (wrap64 (x10+1))))) else (none)) else (none)) else (some x5)
def Qcy.f (k:Nat) (l0:List Int) (a1:Int):Option (Int):=Qcy.l0 k a1 0 l0 (l0.length:Int) 0
theorem Qcy.mono_l: ∀ k,(∀ y0 y1 y2 y3 y4,LeO (Qcy.l0 k y0 y1 y2 y3 y4) (Qcy.l0 (k+1) y0 y1 y2 y3 y4))
 |0=>fun _ _ _ _ _ r h=>by simp [Qcy.l0] at h
 |k+1=>by
  have ih0:=Qcy.mono_l k
  ·
   intro y0 y1 y2 y3 y4;unfold Qcy.l0
   repeat' first
   |(with_reducible exact ih0 _ _ _ _ _)
   |(with_reducible exact LeO.refl _)
   |(with_reducible exact LeO.none _)
   |(with_reducible refine LeO.ite ?_ ?_)
   |(with_reducible refine LeO.bind ?_ (fun _=> ?_))
   |exact ih0 _ _ _ _ _
   |exact LeO.none _
   |refine LeO.ite ?_ ?_
   |refine LeO.bind ?_ (fun _=> ?_)
theorem Qcy.mono: ∀ a0 a1 k,LeO (Qcy.f k a0 a1) (Qcy.f (k+1) a0 a1):=by
 intro a0 a1 k;have ih0:=Qcy.mono_l k;unfold Qcy.f
 repeat' (with_reducible first|apply ih0|exact LeO.refl _|exact LeO.none _|refine LeO.ite ?_ ?_|refine LeO.bind ?_ (fun _=> ?_))
set_option maxHeartbeats 8000000 in
set_option maxRecDepth 100000 in
theorem Qcy.calls (k:Nat) (A0:Option Addr) (c0:Nat) (l0:List Int) (a1:Int) (r:Int) (w:World) (hr0:Kd.C (Kd.int .i64) w A0 l0.length l0) (hc0:l0.length≤c0) (h:Qcy.f k l0 a1=some r):
 Calls Tryz.prog 191 #[.slice A0 l0.length c0, .int .i64 a1] w fun e w'=>e= .returned (.int .i64 r)∧Drawn0 w w':=by
 have HR0:=Zk hr0;have HC0:=Zk hc0;clear hr0 hc0;have H:(Qcy.l0 k a1 0 l0 (l0.length:Int) 0)=some r:=h;clear h;have H':=Zk H;clear H;go_enter Tryz.func191,Tryz.ntmps191;go_wp2
 go_loopg [5,10] k (fun kq v5 v10 w'=> ∃ (x5_1:Int) (x10_1:Int),v5= .int .i64 x5_1∧v10= .int .i64 x10_1∧Z0 (Qcy.l0 kq a1 x5_1 l0 (l0.length:Int) x10_1=some r)∧Z0 (kq≤k)∧Drawn0 w w')
 case atStart=>exact ⟨(0),(0),(by first|rfl|(simp;done)|(simp [*];done)),(by first|rfl|(simp;done)|(simp [*];done)),H',⟨Nat.le_refl _⟩,by repeat (first|exact Drawn0.refl _|apply Drawn0.step)⟩
 case round=>
  clear H'
  skip
  obtain ⟨x5_1,x10_1,rfl,rfl,HA,HK1,⟨m1,rfl⟩⟩:=hrel;cases gk with
  |zero=>exact absurd HA.out (by simp [Qcy.l0])
  |succ k1=>
   have H:=HA.out;clear HA;simp only [Qcy.l0] at H
   by_cases c3:x10_1<(l0.length:Int)
   ·
    rw [if_pos c3] at H;have c3b0:=decide_eq_true c3;clear c3
    by_cases c4:0≤x10_1
    ·
     rw [if_pos c4] at H;have c4b0:=decide_eq_true c4;clear c4
     by_cases c5:x10_1<(l0.length:Int)
     ·
      rw [if_pos c5] at H;have c5b0:=decide_eq_true c5;clear c5
      by_cases c6:(rd l0 x10_1)=0
      ·
       rw [if_pos c6] at H;exact absurd H (by simp)
      ·
       rw [if_neg c6] at H;have c6b0:((rd l0 x10_1)==0)=false:=beq_eq_false_iff_ne.mpr c6;have c6b1:((rd l0 x10_1) !=0)=true:=bne_iff_ne.mpr c6
       by_cases c7:(Int.tmod a1 (rd l0 x10_1))=0
       ·
        rw [if_pos c7] at H;have c7b0:((Int.tmod a1 (rd l0 x10_1))==0)=true:=beq_iff_eq.mpr c7;have c7b1:((Int.tmod a1 (rd l0 x10_1)) !=0)=false:=bne_eq_false_iff_eq.mpr c7;clear c7;have H':=Zk H;clear H;have p623:0≤(x10_1:Int):=of_decide_eq_true (by first|(with_reducible assumption)|assumption);have q623:x10_1<(l0.length:Int):=of_decide_eq_true (by first|(with_reducible assumption)|assumption);obtain ⟨ad623,e623,hx623_0⟩:=Kd.at_int HR0.out x10_1 p623 q623;cases e623;replace p623:=eq_true p623;replace q623:=eq_true q623;go_wp2;go_roundg k1
        case measure=>have:=HK1.out;omega
        case rel=>exact ⟨(wrap64 (x5_1+(rd l0 x10_1))),(wrap64 (x10_1+1)),(by first|rfl|(simp;done)|(simp [*];done)),(by first|rfl|(simp;done)|(simp [*];done)),H',⟨by have:=HK1.out;omega⟩,by repeat (first|exact Drawn0.refl _|apply Drawn0.step)⟩
       ·
        rw [if_neg c7] at H;have c7b0:((Int.tmod a1 (rd l0 x10_1))==0)=false:=beq_eq_false_iff_ne.mpr c7;have c7b1:((Int.tmod a1 (rd l0 x10_1)) !=0)=true:=bne_iff_ne.mpr c7;have H':=Zk H;clear H;have p623:0≤(x10_1:Int):=of_decide_eq_true (by first|(with_reducible assumption)|assumption);have q623:x10_1<(l0.length:Int):=of_decide_eq_true (by first|(with_reducible assumption)|assumption);obtain ⟨ad623,e623,hx623_0⟩:=Kd.at_int HR0.out x10_1 p623 q623;cases e623;replace p623:=eq_true p623;replace q623:=eq_true q623;go_wp2;go_roundg k1
        case measure=>have:=HK1.out;omega
        case rel=>exact ⟨(x5_1),(wrap64 (x10_1+1)),(by first|rfl|(simp;done)|(simp [*];done)),(by first|rfl|(simp;done)|(simp [*];done)),H',⟨by have:=HK1.out;omega⟩,by repeat (first|exact Drawn0.refl _|apply Drawn0.step)⟩
     ·
      rw [if_neg c5] at H;exact absurd H (by simp)
    ·
     rw [if_neg c4] at H;exact absurd H (by simp)
   ·
    rw [if_neg c3] at H;have c3b0:=decide_eq_false c3;clear c3;obtain rfl:=Option.some.inj H;go_wp2
    go_ret
    exact ⟨by first|rfl|(simp;done)|(simp [*];done),by repeat (first|exact Drawn0.refl _|apply Drawn0.step)⟩
end Go.Proofs.YtkgngggppcmpfaaGreat.L
end
section
namespace Go.Proofs.YtkgngggppcmpfaaGreat.L
open Go.RowKit Go.Proofs.YtkgngggppcmpfaaGreatW.PrintWords Go.Proofs.YtkgngggppcmpfaaGreatW.PrintLast Go.Proofs.YtkgngggppcmpfaaGreatW.PrintMore Go.Proofs.YtkgngggppcmpfaaGreat.X
attribute [local go_sem] Qy Q0 Qbb Qbc Qp Qq Qz Q1
set_option linter.unusedVariables false
set_option linter.unusedSimpArgs false
def Qbi.j0:Nat→Int→Int→Int→Bool→Option (Int × Bool)
 |0,_,_,_,_=>none
 |k+1,x0,x1,x2,x16=>if x16=true then (some (0,false)) else ((Qbo.f k x0 x1).bind fun t626=>((Qcy.f k t626 x2).bind fun t629=>(some (t629,true))))
def Qbi.f (k:Nat) (a0:Int) (a1:Int) (a2:Int):Option (Int × Bool):=(Qdm.f a0 a1 10).bind fun t624=>(if t624=true then ((Qbv.f a2 0 60).bind fun t625=>(Qbi.j0 k a0 a1 a2 (!t625))) else (Qbi.j0 k a0 a1 a2 true))
theorem Qbi.mono_l: ∀ k,(∀ y0 y1 y2 y3,LeO (Qbi.j0 k y0 y1 y2 y3) (Qbi.j0 (k+1) y0 y1 y2 y3))
 |0=>fun _ _ _ _ r h=>by simp [Qbi.j0] at h
 |k+1=>by
  have ih0:=Qbi.mono_l k
  ·
   intro y0 y1 y2 y3;unfold Qbi.j0
   repeat' first
   |(with_reducible exact ih0 _ _ _ _)
   |(with_reducible exact Qcy.mono _ _ _)
   |(with_reducible exact Qbo.mono _ _ _)
   |(with_reducible exact LeO.refl _)
   |(with_reducible exact LeO.none _)
   |(with_reducible refine LeO.ite ?_ ?_)
   |(with_reducible refine LeO.bind ?_ (fun _=> ?_))
   |exact ih0 _ _ _ _
   |exact Qcy.mono _ _ _
   |exact Qbo.mono _ _ _
   |exact LeO.none _
   |refine LeO.ite ?_ ?_
   |refine LeO.bind ?_ (fun _=> ?_)
theorem Qbi.mono: ∀ a0 a1 a2 k,LeO (Qbi.f k a0 a1 a2) (Qbi.f (k+1) a0 a1 a2):=by
 intro a0 a1 a2 k;have ih0:=Qbi.mono_l k;unfold Qbi.f
 repeat' (with_reducible first|apply ih0|apply Qcy.mono|apply Qbo.mono|exact LeO.refl _|exact LeO.none _|refine LeO.ite ?_ ?_|refine LeO.bind ?_ (fun _=> ?_))
set_option maxHeartbeats 8000000 in
set_option maxRecDepth 100000 in
theorem Qbi.calls (k:Nat) (a0:Int) (a1:Int) (a2:Int) (r1:Int) (r2:Bool) (w:World) (h:Qbi.f k a0 a1 a2=some (r1,r2)):
 Calls Tryz.prog 138 #[.int .i64 a0, .int .i64 a1, .int .i64 a2] w fun e w'=>e= .returned (.tuple #[.int .i64 r1, .bool r2])∧Below w.heap.size w w':=by
 have HB:=Zk (Below.refl w.heap.size w);have H:((Qdm.f a0 a1 10).bind fun t624=>(if t624=true then ((Qbv.f a2 0 60).bind fun t625=>(Qbi.j0 k a0 a1 a2 (!t625))) else (Qbi.j0 k a0 a1 a2 true)))=some (r1,r2):=h;clear h;have HC4:=Zk H;clear H;go_enter Tryz.func138,Tryz.ntmps138;go_upto_region 1 with (fail)
 go_cut [16] (fun v16 wc=> ∃ (kq:Nat) (x16_3:Bool),v16= .bool x16_3∧Z0 (Qbi.j0 kq a0 a1 a2 x16_3=some (r1,r2))∧Z0 (kq≤k)∧Z0 (Below w.heap.size w wc))
 case first=>
  have H:=HC4.out;clear HC4;obtain ⟨t624,A5,H⟩:=bs H;(try dsimp only at H)
  by_cases c6:t624=true
  ·
   subst c6;rw [if_pos rfl] at H;obtain ⟨t625,A7,H⟩:=bs H;(try dsimp only at H)
   have H':=Zk H;clear H;go_wp2_with (first|(refine gA (some 10) Tryz.func206 #[.int .i64 a0, .int .i64 a1, .int .i64 10] ?_;(with_reducible refine (Qdm.calls a0 a1 10 true _ A5.out).mono ?_);rintro e w' ⟨rfl,⟨nd,rfl⟩⟩;refine ⟨_,rfl,?_⟩)|(go_at_call 159;(with_reducible refine (Qbv.calls a2 0 60 t625 _ A7.out).mono ?_);rintro e w' ⟨rfl,⟨nd,rfl⟩⟩))
   go_meet
   case rel=>exact ⟨_,(!t625),(by first|rfl|(simp;done)|(simp [*];done)),H',⟨by first|omega|exact Nat.le_refl _⟩,⟨uB HB⟩⟩
  ·
   replace c6:=Bool.eq_false_iff.mpr c6;subst c6;rw [if_neg (show ¬ (false=true) by decide)] at H;have H':=Zk H;clear H;go_wp2_with (first|(refine gA (some 10) Tryz.func206 #[.int .i64 a0, .int .i64 a1, .int .i64 10] ?_;(with_reducible refine (Qdm.calls a0 a1 10 false _ A5.out).mono ?_);rintro e w' ⟨rfl,⟨nd,rfl⟩⟩;refine ⟨_,rfl,?_⟩))
   go_meet
   case rel=>exact ⟨_,(true),(by first|rfl|(simp;done)|(simp [*];done)),H',⟨by first|omega|exact Nat.le_refl _⟩,⟨uB HB⟩⟩
 case rest=>
  clear HC4
  skip
  obtain ⟨kq,x16_3,rfl,HA,HJ3,HB⟩:=hcut;cases kq with
  |zero=>exact absurd HA.out (by simp [Qbi.j0])
  |succ kj3=>
   have H:=HA.out;clear HA;simp only [Qbi.j0] at H
   by_cases c8:x16_3=true
   ·
    subst c8;rw [if_pos rfl] at H;simp only [Option.some.injEq,Prod.mk.injEq] at H;obtain ⟨rfl,rfl⟩:=H;go_wp2
    go_ret2
    exact ⟨by first|rfl|(simp [Qe,Qf] <;>rfl)|(simp [*,Qe,Qf] <;>rfl),uB HB⟩
   ·
    replace c8:=Bool.eq_false_iff.mpr c8;subst c8;rw [if_neg (show ¬ (false=true) by decide)] at H;obtain ⟨t626,A9,H⟩:=bs H;(try dsimp only at H)
    obtain ⟨t629,A10,H⟩:=bs H;(try dsimp only at H)
    simp only [Option.some.injEq,Prod.mk.injEq] at H;obtain ⟨rfl,rfl⟩:=H;go_wp2_with (first|(refine gA (some 19) Tryz.func274 #[.int .i64 a0, .int .i64 a1] ?_;(with_reducible refine (Qbo.calls kj3 a0 a1 t626 _ A9.out).mono ?_);rintro e w11 ⟨v627,rfl,ho0,hb⟩;refine ⟨_,rfl,?_⟩;have HO628:=Zk (Kd.R_lower ho0 (Qh (uB HB)));replace HB:=Zk (Qb (uB HB) hb);(try clear hb ho0);obtain ⟨Ao12,co12,eo12⟩:=Kd.R_slice HO628.out;subst eo12)|(refine gA (some 21) Tryz.func191 #[.slice Ao12 t626.length co12, .int .i64 a2] ?_;(with_reducible refine (Qcy.calls kj3 _ _ t626 a2 t629 _ (uE HO628) ?side2 A10.out).mono ?_);(case side2=>exact (Kd.R_reads' HO628.out).2.1);rintro e w' ⟨rfl,⟨nd,rfl⟩⟩;refine ⟨_,rfl,?_⟩))
    go_ret2
    exact ⟨by first|rfl|(simp [Qe,Qf] <;>rfl)|(simp [*,Qe,Qf] <;>rfl),uB HB⟩
end Go.Proofs.YtkgngggppcmpfaaGreat.L
end
