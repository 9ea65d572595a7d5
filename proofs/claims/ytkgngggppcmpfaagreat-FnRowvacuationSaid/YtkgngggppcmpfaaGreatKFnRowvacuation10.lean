/- Laws about the given program: the law FnRowvacuation answers true for every input that its row lets in; no condition is added to the given statement. Contracts of the Go functions that it reaches, and the plain proof over lists. -/
import Derived.Test.YtkgngggppcmpfaaGreatWFnRowvacuation0
import Derived.Test.YtkgngggppcmpfaaGreatKFnRowvacuation0
import Derived.Test.YtkgngggppcmpfaaGreatKFnRowvacuation1
import Derived.Test.YtkgngggppcmpfaaGreatKFnRowvacuation2
import Derived.Test.YtkgngggppcmpfaaGreatKFnRowvacuation3
import Derived.Test.YtkgngggppcmpfaaGreatKFnRowvacuation4
import Derived.Test.YtkgngggppcmpfaaGreatKFnRowvacuation5
import Derived.Test.YtkgngggppcmpfaaGreatKFnRowvacuation6
import Derived.Test.YtkgngggppcmpfaaGreatKFnRowvacuation7
import Derived.Test.YtkgngggppcmpfaaGreatKFnRowvacuation8
import Derived.Test.YtkgngggppcmpfaaGreatKFnRowvacuation9
section
namespace Go.Proofs.YtkgngggppcmpfaaGreat.L
open Go.RowKit Go.Proofs.YtkgngggppcmpfaaGreatW.PrintWords Go.Proofs.YtkgngggppcmpfaaGreatW.PrintLast Go.Proofs.YtkgngggppcmpfaaGreatW.PrintMore Go.Proofs.YtkgngggppcmpfaaGreat.X
attribute [local go_sem] Qt Qv Q2 Q3 Qm Qn Qu Qw
set_option linter.unusedVariables false
set_option linter.unusedSimpArgs false
def Qem.f (k : Nat) (l0_0 : List Int) (a1 : Int) (l2 : List Int) : Option (Int × Bool) := (Qdi.f k l0_0 a1).bind fun t1051 => (if t1051 = true then (if (l2.length : Int) > 40 then (some (0, false)) else ((Q9.f k l0_0).bind fun t1052 => ((Qc6.f k l2 0 (wrap64 ((t1052.length : Int) - 1))).bind fun t1055 => (if t1055 = true then ((Qbt.f k l0_0 a1 l2).bind fun t1056 => (some (t1056, true))) else (some (0, false)))))) else (some (0, false)))
theorem Qem.mono : ∀ a0 a1 a2 k, LeO (Qem.f k a0 a1 a2) (Qem.f (k + 1) a0 a1 a2) := by
 intro a0 a1 a2 k;unfold Qem.f
 repeat' (with_reducible first|apply Qc6.mono|apply Qdi.mono|apply Q9.mono|apply Qbt.mono|exact LeO.refl _|exact LeO.none _|refine LeO.ite ?_ ?_|refine LeO.bind ?_ (fun _=> ?_))
set_option maxHeartbeats 8000000 in
set_option maxRecDepth 100000 in
theorem Qem.calls (k : Nat) (A0_0 : Option Addr) (c0_0 : Nat) (l0_0 : List Int) (a1 : Int) (A2 : Option Addr) (c2 : Nat) (l2 : List Int) (r1 : Int) (r2 : Bool) (w : World) (hr0_0 : Kd.C (Kd.int .i64) w A0_0 l0_0.length l0_0) (hc0_0 : l0_0.length ≤ c0_0) (hr2 : Kd.C (Kd.int .i64) w A2 l2.length l2) (hc2 : l2.length ≤ c2) (h : Qem.f k l0_0 a1 l2 = some (r1, r2)) :
 Calls Tryz.prog 86 #[.agg #[.slice A0_0 l0_0.length c0_0], .int .i64 a1, .slice A2 l2.length c2] w fun e w'=>e= .returned (.tuple #[.int .i64 r1, .bool r2])∧Below w.heap.size w w':=by
 have hu26:=Tryz.underlying26;have HR0_0:=Aside0.mk hr0_0;have HC0_0:=Aside0.mk hc0_0;clear hr0_0 hc0_0;have HR2:=Aside0.mk hr2;have HC2:=Aside0.mk hc2;clear hr2 hc2;have HB:=Aside0.mk (Below.refl w.heap.size w);have H:((Qdi.f k l0_0 a1).bind fun t1051=>(if t1051=true then (if (l2.length:Int)>40 then (some (0,false)) else ((Q9.f k l0_0).bind fun t1052=>((Qc6.f k l2 0 (wrap64 ((t1052.length:Int) - 1))).bind fun t1055=>(if t1055=true then ((Qbt.f k l0_0 a1 l2).bind fun t1056=>(some (t1056,true))) else (some (0,false)))))) else (some (0,false))))=some (r1,r2):=h;clear h;obtain ⟨t1051,A4,H⟩:=bs H;(try dsimp only at H)
 by_cases c5:t1051=true
 ·
  subst c5;rw [if_pos rfl] at H
  by_cases c6:(l2.length:Int)>40
  ·
   rw [if_pos c6] at H;have c6b0:=decide_eq_true c6;have c6b1:decide (40<l2.length)=true:=decide_eq_true (by omega);clear c6;simp only [Option.some.injEq,Prod.mk.injEq] at H;obtain ⟨rfl,rfl⟩:=H;go_enter Tryz.func86,Tryz.ntmps86;go_wp2_with (first|((with_reducible refine Qc0 (N:=3) rfl ?_);(try (refine Qhh (by rfl) ?_;dsimp only));refine bE (N:=3) (cs:= #[.slice A0_0 l0_0.length c0_0]) (t:=26) ?_;intro gb1050 hg w7 hbox hb;have BK1050:=Aside0.mk (hbox);have GW1050:=Aside0.mk ((gV hg (uB HB)));have GE1050:=GW1050;replace HB:=Aside0.mk (Qa (uB HB) hb);clear hb hbox hg;have hcz8_0:=bC BK1050;have hfz8_0:=Qf BK1050.out 0)|(refine gA (some 10) Tryz.func152 #[.agg #[.slice A0_0 l0_0.length c0_0], .int .i64 a1] ?_;(with_reducible refine (Qdi.calls k _ _ l0_0 a1 true _ (uD HR0_0 HB) HC0_0.out A4.out).mono ?_);rintro e w9 ⟨rfl,hb⟩;refine ⟨_,rfl,?_⟩;replace BK1050:=Aside0.mk (Qc (uK BK1050) hb);replace HB:=Aside0.mk (Qa (uB HB) hb);(try clear hb)))
   go_ret2
   exact ⟨by first|rfl|(simp [Qd,Qe] <;>rfl)|(simp [*,Qd,Qe] <;>rfl),uB HB⟩
  ·
   rw [if_neg c6] at H;have c6b0:=decide_eq_false c6;have c6b1:decide (40<l2.length)=false:=decide_eq_false (by omega);clear c6;obtain ⟨t1052,A10,H⟩:=bs H;(try dsimp only at H)
   obtain ⟨t1055,A11,H⟩:=bs H;(try dsimp only at H)
   by_cases c12:t1055=true
   ·
    subst c12;rw [if_pos rfl] at H;obtain ⟨t1056,A13,H⟩:=bs H;(try dsimp only at H)
    simp only [Option.some.injEq,Prod.mk.injEq] at H;obtain ⟨rfl,rfl⟩:=H;go_enter Tryz.func86,Tryz.ntmps86;go_wp2_with (first|((with_reducible refine Qc0 (N:=3) rfl ?_);(try (refine Qhh (by rfl) ?_;dsimp only));refine bE (N:=3) (cs:= #[.slice A0_0 l0_0.length c0_0]) (t:=26) ?_;intro gb1050 hg w14 hbox hb;have BK1050:=Aside0.mk (hbox);have GW1050:=Aside0.mk ((gV hg (uB HB)));have GE1050:=GW1050;replace HB:=Aside0.mk (Qa (uB HB) hb);clear hb hbox hg;have hcz15_0:=bC BK1050;have hfz15_0:=Qf BK1050.out 0)|(refine gA (some 10) Tryz.func152 #[.agg #[.slice A0_0 l0_0.length c0_0], .int .i64 a1] ?_;(with_reducible refine (Qdi.calls k _ _ l0_0 a1 true _ (uD HR0_0 HB) HC0_0.out A4.out).mono ?_);rintro e w16 ⟨rfl,hb⟩;refine ⟨_,rfl,?_⟩;replace BK1050:=Aside0.mk (Qc (uK BK1050) hb);replace HB:=Aside0.mk (Qa (uB HB) hb);(try clear hb);have hcz17_0:=bC BK1050;have hfz17_0:=Qf BK1050.out 0)|(go_at_call 155;(with_reducible refine (Q9.calls k _ _ l0_0 t1052 _ (uD HR0_0 HB) HC0_0.out A10.out).mono ?_);rintro e w18 ⟨v1053,rfl,ho0,hb⟩;have HO1054:=Aside0.mk (Kd.R_lower ho0 (Qp (uB HB)));replace BK1050:=Aside0.mk (Qc (uK BK1050) hb);replace HB:=Aside0.mk (Qa (uB HB) hb);(try clear hb ho0);obtain ⟨Ao19,co19,eo19⟩:=Kd.R_slice HO1054.out;subst eo19)|(go_at_call 224;(with_reducible refine (Qc6.calls k _ _ l2 0 (wrap64 ((t1052.length:Int) - 1)) true _ (uD HR2 HB) HC2.out A11.out).mono ?_);rintro e w' ⟨rfl,⟨nd,rfl⟩⟩;have hcz20_0:=bC BK1050;have hfz20_0:=Qf BK1050.out 0)|(refine gA (some 29) Tryz.func153 #[.agg #[.slice A0_0 l0_0.length c0_0], .int .i64 a1, .slice A2 l2.length c2] ?_;(with_reducible refine (Qbt.calls k _ _ l0_0 a1 _ _ l2 t1056 _ ?side1 HC0_0.out ?side3 HC2.out A13.out).mono ?_);(case side1=>repeat (first|exact (Kd.C_below HR0_0.out (uB HB))|(with_reducible refine Kd.C_alloc ?_ _)|(with_reducible refine Kd.C_drewN ?_ _)|(with_reducible refine Kd.C_drew ?_)));(case side3=>repeat (first|exact (Kd.C_below HR2.out (uB HB))|(with_reducible refine Kd.C_alloc ?_ _)|(with_reducible refine Kd.C_drewN ?_ _)|(with_reducible refine Kd.C_drew ?_)));rintro e w21 ⟨rfl,hb⟩;refine ⟨_,rfl,?_⟩;replace HO1054:=Aside0.mk (Kd.R_below (uR HO1054) hb);replace BK1050:=Aside0.mk (Qc (uK BK1050) hb);replace HB:=Aside0.mk (Qa (uB HB) hb);(try clear hb)))
    go_ret2
    exact ⟨by first|rfl|(simp [Qd,Qe] <;>rfl)|(simp [*,Qd,Qe] <;>rfl),uB HB⟩
   ·
    replace c12:=Bool.eq_false_iff.mpr c12;subst c12;rw [if_neg (show ¬ (false=true) by decide)] at H;simp only [Option.some.injEq,Prod.mk.injEq] at H;obtain ⟨rfl,rfl⟩:=H;go_enter Tryz.func86,Tryz.ntmps86;go_wp2_with (first|((with_reducible refine Qc0 (N:=3) rfl ?_);(try (refine Qhh (by rfl) ?_;dsimp only));refine bE (N:=3) (cs:= #[.slice A0_0 l0_0.length c0_0]) (t:=26) ?_;intro gb1050 hg w22 hbox hb;have BK1050:=Aside0.mk (hbox);have GW1050:=Aside0.mk ((gV hg (uB HB)));have GE1050:=GW1050;replace HB:=Aside0.mk (Qa (uB HB) hb);clear hb hbox hg;have hcz23_0:=bC BK1050;have hfz23_0:=Qf BK1050.out 0)|(refine gA (some 10) Tryz.func152 #[.agg #[.slice A0_0 l0_0.length c0_0], .int .i64 a1] ?_;(with_reducible refine (Qdi.calls k _ _ l0_0 a1 true _ (uD HR0_0 HB) HC0_0.out A4.out).mono ?_);rintro e w24 ⟨rfl,hb⟩;refine ⟨_,rfl,?_⟩;replace BK1050:=Aside0.mk (Qc (uK BK1050) hb);replace HB:=Aside0.mk (Qa (uB HB) hb);(try clear hb);have hcz25_0:=bC BK1050;have hfz25_0:=Qf BK1050.out 0)|(go_at_call 155;(with_reducible refine (Q9.calls k _ _ l0_0 t1052 _ (uD HR0_0 HB) HC0_0.out A10.out).mono ?_);rintro e w26 ⟨v1053,rfl,ho0,hb⟩;have HO1054:=Aside0.mk (Kd.R_lower ho0 (Qp (uB HB)));replace BK1050:=Aside0.mk (Qc (uK BK1050) hb);replace HB:=Aside0.mk (Qa (uB HB) hb);(try clear hb ho0);obtain ⟨Ao27,co27,eo27⟩:=Kd.R_slice HO1054.out;subst eo27)|(go_at_call 224;(with_reducible refine (Qc6.calls k _ _ l2 0 (wrap64 ((t1052.length:Int) - 1)) false _ (uD HR2 HB) HC2.out A11.out).mono ?_);rintro e w' ⟨rfl,⟨nd,rfl⟩⟩))
    go_ret2
    exact ⟨by first|rfl|(simp [Qd,Qe] <;>rfl)|(simp [*,Qd,Qe] <;>rfl),uB HB⟩
 ·
  replace c5:=Bool.eq_false_iff.mpr c5;subst c5;rw [if_neg (show ¬ (false=true) by decide)] at H;simp only [Option.some.injEq,Prod.mk.injEq] at H;obtain ⟨rfl,rfl⟩:=H;go_enter Tryz.func86,Tryz.ntmps86;go_wp2_with (first|((with_reducible refine Qc0 (N:=3) rfl ?_);(try (refine Qhh (by rfl) ?_;dsimp only));refine bE (N:=3) (cs:= #[.slice A0_0 l0_0.length c0_0]) (t:=26) ?_;intro gb1050 hg w28 hbox hb;have BK1050:=Aside0.mk (hbox);have GW1050:=Aside0.mk ((gV hg (uB HB)));have GE1050:=GW1050;replace HB:=Aside0.mk (Qa (uB HB) hb);clear hb hbox hg;have hcz29_0:=bC BK1050;have hfz29_0:=Qf BK1050.out 0)|(refine gA (some 10) Tryz.func152 #[.agg #[.slice A0_0 l0_0.length c0_0], .int .i64 a1] ?_;(with_reducible refine (Qdi.calls k _ _ l0_0 a1 false _ (uD HR0_0 HB) HC0_0.out A4.out).mono ?_);rintro e w30 ⟨rfl,hb⟩;refine ⟨_,rfl,?_⟩;replace BK1050:=Aside0.mk (Qc (uK BK1050) hb);replace HB:=Aside0.mk (Qa (uB HB) hb);(try clear hb)))
  go_ret2
  exact ⟨by first|rfl|(simp [Qd,Qe] <;>rfl)|(simp [*,Qd,Qe] <;>rfl),uB HB⟩
end Go.Proofs.YtkgngggppcmpfaaGreat.L
end
section
namespace Go.Proofs.YtkgngggppcmpfaaGreat.M
open Go.RowKit Go.Proofs.YtkgngggppcmpfaaGreatW.PrintWords Go.Proofs.YtkgngggppcmpfaaGreatW.PrintLast Go.Proofs.YtkgngggppcmpfaaGreatW.PrintMore Go.Proofs.YtkgngggppcmpfaaGreat.L
set_option linter.unusedVariables false
theorem toI_all {x : List Int} {n : Nat} (h : x.all (inB · 0 ((n : Int) - 1)) = true) : x = toI (x.map Int.toNat) ∧ ∀ r ∈ x.map Int.toNat, r < n := by
 rw [List.all_eq_true] at h
 constructor
 ·
  unfold toI
  rw [List.map_map]
  exact (List.map_id x).symm.trans (List.map_congr_left fun a ha => by have := Qex.mp (h a ha); simp; omega)
 ·
  intro r hr
  rw [List.mem_map] at hr
  obtain ⟨a, ha, rfl⟩ := hr
  have := Qex.mp (h a ha); omega
theorem Qow (x : List Int) (rk : List Int) {n : Nat} (hn : wrap64 ((rk.length : Int) - 1) = (n : Int) - 1) : x.any (Qce.p rk) = !(x.all (inB · 0 ((n : Int) - 1))) := by
 rw [Bool.eq_iff_iff, Bool.not_eq_true', List.any_eq_true, List.all_eq_false]
 refine exists_congr fun e => and_congr_right fun _ => ?_
 unfold Qce.p
 rw [hn, Bool.not_eq_true', ← Bool.not_eq_true]
 rfl
theorem TRs_ev (l : List Int) (s : Int) (x : List Int) (hx : x.length ≤ 1048576) : ∃ r : Int × Bool, Ev (fun k => Qem.f k l s x) r ∧ Ev (fun k => Qce.f k l s x) r ∧
  (rvB l s = false → r = (0, false)) ∧ (∀ p t, l = toI p → s = ((t : Nat) : Int) → Good p → IsId p t → Qer p = true → x.length ≤ 40 → (x.all (inB · 0 ((hgh p : Int) - 1)) = false → r = (0, false)) ∧ (x.all (inB · 0 ((hgh p : Int) - 1)) = true → r = ((((x.map Int.toNat).foldl (tgR p) t : Nat) : Int), true))) := by
 by_cases h : rvB l s = true
 ·
  obtain ⟨p, t, rfl, rfl, g, ht, hr⟩ := Qly h
  have gh := Qd4 g
  by_cases hc : (x.length : Int) > 40
  ·
   exact ⟨(0, false), Ev.bind (Qgp _ _) (Qh h (Qh hc (Ev.now _))), Ev.bind (Qdr _ _) (Qh h (Qh hc (Ev.now _))), fun _ => rfl, fun p' t' _ _ _ _ _ hl => by omega⟩
  ·
   have hn : wrap64 (((toI (Qg6 p)).length : Int) - 1) = ((hgh p : Nat) : Int) - 1 := by rw [toI_len, Qf8, Qdg (by omega) (by omega)]
   by_cases ha : x.all (inB · 0 ((hgh p : Int) - 1)) = true
   ·
    obtain ⟨e, hw⟩ := toI_all ha
    have hwl : (x.map Int.toNat).length ≤ 100000 := by rw [List.length_map]; omega
    refine ⟨((((x.map Int.toNat).foldl (tgR p) t : Nat) : Int), true), ?_, ?_, fun h2 => (by rw [h] at h2; cases h2), fun p' t' e1 e2 _ _ _ _ => ?_⟩
    ·
     refine Ev.bind (Qgp _ _) (Qh h (Qbj hc (Ev.bind (Qf9 g) ?_)))
     rw [hn]
     refine Ev.bind (Qn0 x _ _ (by omega)) (Qh ha ?_)
     have := Qib g _ hw hwl ht.1
     rw [← e] at this
     exact Ev.bind this (Ev.now _)
    ·
     refine Ev.bind (Qdr _ _) (Qh h (Qbj hc (Ev.bind (Qf5 g) ?_)))
     rw [Qow x _ hn, ha]
     refine Qbj (by simp) ?_
     have := Qfn g _ hw hwl ht.1
     rw [← e] at this
     exact Ev.bind this (Ev.now _)
    ·
     obtain rfl := Qmi e1
     obtain rfl : t = t' := by omega
     exact ⟨fun h2 => (by rw [ha] at h2; cases h2), fun _ => rfl⟩
   ·
    refine ⟨(0, false), ?_, ?_, fun _ => rfl, fun p' t' e1 e2 _ _ _ _ => ?_⟩
    ·
     refine Ev.bind (Qgp _ _) (Qh h (Qbj hc (Ev.bind (Qf9 g) ?_)))
     rw [hn]
     exact Ev.bind (Qn0 x _ _ (by omega)) (Qbj ha (Ev.now _))
    ·
     refine Ev.bind (Qdr _ _) (Qh h (Qbj hc (Ev.bind (Qf5 g) ?_)))
     rw [Qow x _ hn, Bool.eq_false_iff.mpr ha]
     exact Qh rfl (Ev.now _)
    ·
     obtain rfl := Qmi e1
     exact ⟨fun _ => rfl, fun h2 => absurd h2 ha⟩
 ·
  exact ⟨(0, false), Ev.bind (Qgp _ _) (Qbj h (Ev.now _)), Ev.bind (Qdr _ _) (Qbj h (Ev.now _)), fun _ => rfl, fun p t e1 e2 g ht hr _ => absurd (by unfold rvB; rw [e1, e2, Qln g ht, Qof g hr]; rfl) h⟩
end Go.Proofs.YtkgngggppcmpfaaGreat.M
end
section
namespace Go.Proofs.YtkgngggppcmpfaaGreat.M
open Go.RowKit Go.Proofs.YtkgngggppcmpfaaGreatW.PrintWords Go.Proofs.YtkgngggppcmpfaaGreatW.PrintLast Go.Proofs.YtkgngggppcmpfaaGreatW.PrintMore Go.Proofs.YtkgngggppcmpfaaGreat.L
end Go.Proofs.YtkgngggppcmpfaaGreat.M
end
section
namespace Go.Proofs.YtkgngggppcmpfaaGreat.M
open Go.RowKit Go.Proofs.YtkgngggppcmpfaaGreatW.PrintWords Go.Proofs.YtkgngggppcmpfaaGreatW.PrintLast Go.Proofs.YtkgngggppcmpfaaGreatW.PrintMore Go.Proofs.YtkgngggppcmpfaaGreat.L
set_option linter.unusedVariables false
theorem Qp1 {x y : Int} {a b : List Int} (e : x = y) : decide (x :: a = y :: b) = decide (a = b) :=
 decide_eq_decide.mpr ⟨fun h => (List.cons.inj h).2, fun h => by rw [e, h]⟩
theorem Qn5 (a b : List Int) (hl : a.length ≤ 1000000) (hab : a.length = b.length) : ∀ (d i : Nat), i + d = a.length → Ev (fun k => Qcw.l0 k a b (a.length : Int) (i : Int)) (decide (a.drop i = b.drop i))
 | 0, i, h => by
  refine Ev.step (fun _ => Qcw.l0.eq_2 ..) (Qbj (by omega) ?_)
  rw [List.drop_of_length_le (by omega), List.drop_of_length_le (by omega)]
  exact Ev.now _
 | d + 1, i, h => by
  refine Ev.step (fun _ => Qcw.l0.eq_2 ..) (Qh (by omega) (Qh (by omega) (Qh (by omega) (Qh (by omega) ?_))))
  rw [Qbz (by omega), Qjv (by omega : i < a.length), Qjv (by omega : i < b.length), List.drop_eq_getElem_cons (by omega : i < a.length), List.drop_eq_getElem_cons (by omega : i < b.length)]
  refine Qc7 (fun e => ?_) (fun e => ?_)
  ·
   rw [Qp1 e]; exact Qn5 a b hl hab d (i + 1) (by omega)
  ·
   rw [decide_eq_false fun h => e (List.cons.inj h).1]; exact Ev.now false
theorem nSame_ev (a b : List Int) (hl : a.length ≤ 1000000) : Ev (fun k => Qcw.f k a b) (decide (a = b)) := by
 refine Qc7 (fun e => ?_) (fun e => ?_)
 ·
  have := Qn5 a b hl (by omega) a.length 0 (by omega)
  rw [List.drop_zero, List.drop_zero] at this
  exact this
 ·
  rw [decide_eq_false fun h => e (by rw [h])]; exact Ev.now false
theorem Qlu (a : List Int) (hl : a.length ≤ 1000000) : Ev (fun k => Qcw.f k a a) true := by simpa using nSame_ev a a hl
theorem big_eq (a b : List Int) : ∃ v, Qf7.f a b = some v ∧ (v = false → a.length ≤ 1048576 ∧ b.length ≤ 1048576) := by
 unfold Qf7.f
 by_cases h : (a.length : Int) > 1048576
 ·
  rw [if_pos h]; exact ⟨true, rfl, fun e => by cases e⟩
 ·
  rw [if_neg h]
  refine ⟨_, rfl, fun e => ?_⟩
  rw [decide_eq_false_iff_not, Qdg (by omega) (by omega)] at e
  omega
end Go.Proofs.YtkgngggppcmpfaaGreat.M
end
section
namespace Go.Proofs.YtkgngggppcmpfaaGreat.L
open Go.RowKit Go.Proofs.YtkgngggppcmpfaaGreatW.PrintWords Go.Proofs.YtkgngggppcmpfaaGreatW.PrintLast Go.Proofs.YtkgngggppcmpfaaGreatW.PrintMore
attribute [local go_sem] Qt Qv Q2 Q3 Qm Qn Qu Qw
set_option linter.unusedVariables false
set_option linter.unusedSimpArgs false
end Go.Proofs.YtkgngggppcmpfaaGreat.L
end
section
namespace Go.Proofs.YtkgngggppcmpfaaGreat.L
open Go.RowKit Go.Proofs.YtkgngggppcmpfaaGreatW.PrintWords Go.Proofs.YtkgngggppcmpfaaGreatW.PrintLast Go.Proofs.YtkgngggppcmpfaaGreatW.PrintMore Go.Proofs.YtkgngggppcmpfaaGreat.X
attribute [local go_sem] Qt Qv Q2 Q3 Qm Qn Qu Qw
set_option linter.unusedVariables false
set_option linter.unusedSimpArgs false
end Go.Proofs.YtkgngggppcmpfaaGreat.L
end
section
namespace Go.Proofs.YtkgngggppcmpfaaGreat.M
open Go.RowKit Go.Proofs.YtkgngggppcmpfaaGreatW.PrintWords Go.Proofs.YtkgngggppcmpfaaGreatW.PrintLast Go.Proofs.YtkgngggppcmpfaaGreatW.PrintMore Go.Proofs.YtkgngggppcmpfaaGreat.L
set_option linter.unusedVariables false
structure Cu (c : List Int) (t : Int) (m : Nat) : Prop where
 len : c.length ≤ 1048576
 byt : ∀ x ∈ c, 0 ≤ x ∧ x ≤ 255
 lo : 0 ≤ t
 hi : t ≤ (m : Int)
theorem Cu.mono {c : List Int} {t : Int} {m n : Nat} (h : Cu c t m) (hm : m ≤ n) : Cu c t n := ⟨h.len, h.byt, h.lo, by have := h.hi; omega⟩
theorem Qno {c : List Int} (hl : c.length ≤ 1048576) (hb : ∀ x ∈ c, (Lit.int .u8 x).wf = true) : Cu c 0 0 :=
 ⟨hl, fun x hx => by
  have h := hb x hx
  simp only [Lit.wf, Bool.and_eq_true, decide_eq_true_eq] at h
  have e0 : IntKind.u8.min = 0 := by decide
  have e1 : IntKind.u8.max = 255 := by decide
  omega, Int.le_refl _, Int.le_refl _⟩
theorem and255 (a : Int) : ∃ v : Nat, v ≤ 255 ∧ Go.bits .and .u64 a 255 = (v : Int) := by
 refine ⟨(BitVec.ofInt IntKind.u64.bits a).toNat &&& (BitVec.ofInt IntKind.u64.bits 255).toNat, ?_, ?_⟩
 ·
  exact Nat.le_trans Nat.and_le_right (by decide)
 ·
  simp only [Go.bits, BitVec.toNat_and]
  have h : (BitVec.ofInt IntKind.u64.bits a).toNat &&& (BitVec.ofInt IntKind.u64.bits 255).toNat ≤ 255 := Nat.le_trans Nat.and_le_right (by decide)
  rw [show ∀ n : Int, IntKind.u64.wrap n = n % 18446744073709551616 from fun n => by simp [IntKind.wrap, IntKind.bits, IntKind.signed]]
  omega
theorem Qo7 {c : List Int} {t s : Int} {m : Nat} (h : Cu c t m) (hm : m ≤ 1000000) : ∃ v t' s', Qd0.f c t s = some (v, t', s') ∧ 0 ≤ v ∧ v ≤ 255 ∧ Cu c t' (m + 1) := by
 have hl := h.len
 have h0 := h.lo
 have h1 := h.hi
 have hc : Cu c (wrap64 (t + 1)) (m + 1) := ⟨h.len, h.byt, by rw [Qdg (by omega) (by omega)]; omega, by rw [Qdg (by omega) (by omega)]; omega⟩
 have wb : ∀ a : Int, 0 ≤ wrap64 (Go.bits .and .u64 a 255) ∧ wrap64 (Go.bits .and .u64 a 255) ≤ 255 := fun a => by
  obtain ⟨v, hv, e⟩ := and255 a
  rw [e, Qdg (by omega) (by omega)]; omega
 unfold Qd0.f
 by_cases c1 : t < (c.length : Int)
 ·
  obtain ⟨i, rfl⟩ : ∃ i : Nat, t = (i : Int) := ⟨t.toNat, by omega⟩
  have hb := h.byt _ (List.getElem_mem (show i < c.length by omega))
  rw [if_pos c1, if_pos h0, Qjv (by omega)]
  by_cases c2 : wrap64 ((i : Int) + 1) ≤ (c.length : Int)
  ·
   rw [if_pos c2]
   exact ⟨_, _, _, rfl, by rw [Qdg (by omega) (by omega)]; omega, by rw [Qdg (by omega) (by omega)]; omega, hc⟩
  ·
   rw [if_neg c2]
   exact ⟨_, _, _, rfl, (wb _).1, (wb _).2, hc⟩
 ·
  rw [if_neg c1]
  by_cases c2 : wrap64 (t + 1) ≤ (c.length : Int)
  ·
   rw [if_pos c2]
   exact ⟨_, _, _, rfl, by omega, by omega, hc⟩
  ·
   rw [if_neg c2]
   exact ⟨_, _, _, rfl, (wb _).1, (wb _).2, hc⟩
theorem Qpg {a n : Int} (ha : 0 ≤ a) (hn : 0 < n) : 0 ≤ Int.tmod a n ∧ Int.tmod a n < n := by
 rw [Int.tmod_eq_emod_of_nonneg ha]
 exact ⟨Int.emod_nonneg _ (by omega), Int.emod_lt_of_pos _ hn⟩
theorem Qeq {c : List Int} {t s : Int} {m : Nat} (n : Int) (h : Cu c t m) (hm : m ≤ 900000) : ∃ v t' s', Qz.f c t s n = some (v, t', s') ∧ 0 ≤ v ∧ (v < n ∨ v = 0) ∧ Cu c t' (m + 2) := by
 unfold Qz.f
 by_cases c1 : n ≤ 1
 ·
  rw [if_pos c1]
  exact ⟨_, _, _, rfl, Int.le_refl _, .inr rfl, h.mono (by omega)⟩
 ·
  rw [if_neg c1]
  obtain ⟨v, t', s', e, v0, v1, h'⟩ := Qo7 (s := s) h (by omega)
  rw [e, Option.bind_some]
  by_cases c2 : n > 200
  ·
   obtain ⟨v2, t2, s2, e2, a0, a1, h2⟩ := Qo7 (s := s') h' (by omega)
   dsimp only
   rw [if_pos c2, e2, Option.bind_some, if_neg (by omega)]
   dsimp only
   have w : wrap64 (wrap64 (v * 256) + v2) = v * 256 + v2 := by rw [Qdg (x := v * 256) (by omega) (by omega), Qdg (by omega) (by omega)]
   have b := Qpg (a := v * 256 + v2) (n := n) (by omega) (by omega)
   refine ⟨_, _, _, rfl, ?_, .inl ?_, h2⟩
   ·
    show 0 ≤ Int.tmod (wrap64 (wrap64 (v * 256) + v2)) n
    rw [w]; exact b.1
   ·
    show Int.tmod (wrap64 (wrap64 (v * 256) + v2)) n < n
    rw [w]; exact b.2
  ·
   dsimp only
   rw [if_neg c2, if_neg (by omega)]
   have b := Qpg (a := v) (n := n) v0 (by omega)
   exact ⟨_, _, _, rfl, b.1, .inl b.2, h'.mono (by omega)⟩
theorem Qjq {c : List Int} {t s : Int} {m : Nat} (n : Int) (h : Cu c t m) (hm : m ≤ 900000) : ∃ v t' s', Qcv.f c t s n = some (v, t', s') ∧ Cu c t' (m + 2) := by
 obtain ⟨v, t', s', e, _, _, h'⟩ := Qeq (s := s) n h hm
 unfold Qcv.f
 rw [e, Option.bind_some]
 exact ⟨_, _, _, rfl, h'⟩
theorem Qni {c : List Int} {t s : Int} {m : Nat} (l : List Int) (hl : 0 < l.length) (h : Cu c t m) (hm : m ≤ 900000) : ∃ v t' s', Qdf.f c t s l = some (v, t', s') ∧ v ∈ l ∧ Cu c t' (m + 2) := by
 obtain ⟨v, t', s', e, v0, v1, h'⟩ := Qeq (s := s) (l.length : Int) h hm
 obtain ⟨i, rfl⟩ : ∃ i : Nat, v = (i : Int) := ⟨v.toNat, by omega⟩
 unfold Qdf.f
 rw [e, Option.bind_some]
 have hi : i < l.length := by omega
 dsimp only
 rw [if_pos (by omega), if_pos (by omega), Qjv hi]
 exact ⟨_, _, _, rfl, List.getElem_mem hi, h'⟩
def Qil (n : Nat) (x : List (List Int)) : Prop := ∀ c ∈ x, ∃ i j : Int, c = [i, j] ∧ 0 ≤ i ∧ i < (n : Int)
theorem Qjs {n : Nat} (hn : n ≤ 1000) (x : List (List Int)) (hx : Qil n x) (hl : x.length ≤ 100000) (i : Nat) (hi : i < n) (c : ∀ F : List Int, F.length = n → ∃ R : List Int, R.length = n ∧ Ev (fun k => Qbg.l0 k (n : Int) x ((i + 1 : Nat) : Int) F) R) : ∀ (d q : Nat) (F : List Int), q + d = x.length → F.length = n →
  ∃ R : List Int, R.length = n ∧ Ev (fun k => Qbg.l1 k (n : Int) x (i : Int) x (x.length : Int) (q : Int) F) R
 | 0, q, F, h, hF => by
  obtain ⟨R, hR, e⟩ := c F hF
  refine ⟨R, hR, Ev.step (fun _ => Qbg.l1.eq_2 ..) (Qbj (by omega) ?_)⟩
  rw [Qbz (by omega)]; exact e
 | d + 1, q, F, h, hF => by
  have hq : q < x.length := by omega
  obtain ⟨a, b, e, ha, hb⟩ := hx _ (List.getElem_mem hq)
  have er : Qb2 x (q : Int) = [a, b] := by unfold Qb2; simp [List.getD_eq_getElem?_getD, hq, e]
  have e0 : rd [a, b] 0 = a := rfl
  have e1 : rd [a, b] 1 = b := rfl
  have el : (([a, b] : List Int).length : Int) = 2 := rfl
  by_cases cb : b = (i : Int)
  ·
   have ih := Qjs hn x hx hl i hi c d (q + 1)
   obtain ⟨R, hR, ev⟩ := ih (F.set i (Go.bits .or .i64 (rd F (i : Int)) (Go.bits .or .i64 (shl .i64 1 a) (rd F a)))) (by omega) (by rw [List.length_set]; exact hF)
   refine ⟨R, hR, Ev.step (fun _ => Qbg.l1.eq_2 ..) (Qh (by omega) (Qh (by omega) (Qh (by omega) ?_)))⟩
   rw [er, e0, e1, el]
   refine Qh (by omega) (Qh cb (Qh (by omega) (Qh (by omega) (Qh (by omega) (Qh ha (Qh (by omega) ?_))))))
   rw [Qbz (by omega), Int.toNat_natCast]
   exact ev
  ·
   have ih := Qjs hn x hx hl i hi c d (q + 1)
   obtain ⟨R, hR, ev⟩ := ih F (by omega) hF
   refine ⟨R, hR, Ev.step (fun _ => Qbg.l1.eq_2 ..) (Qh (by omega) (Qh (by omega) (Qh (by omega) ?_)))⟩
   rw [er, e1, el]
   refine Qh (by omega) (Qbj cb ?_)
   rw [Qbz (by omega)]
   exact ev
theorem Qmv {n : Nat} (hn : n ≤ 1000) (x : List (List Int)) (hx : Qil n x) (hl : x.length ≤ 100000) : ∀ (d i : Nat), i + d = n → ∀ F : List Int, F.length = n → ∃ R : List Int, R.length = n ∧ Ev (fun k => Qbg.l0 k (n : Int) x (i : Int) F) R
 | 0, i, h, F, hF => ⟨F, hF, Ev.step (fun _ => Qbg.l0.eq_2 ..) (Qbj (by omega) (Ev.now _))⟩
 | d + 1, i, h, F, hF => by
  obtain ⟨R, hR, e⟩ := Qjs hn x hx hl i (by omega) (Qmv hn x hx hl d (i + 1) (by omega)) x.length 0 F (by omega) hF
  exact ⟨R, hR, Ev.step (fun _ => Qbg.l0.eq_2 ..) (Qh (by omega) e)⟩
theorem Qjt {n : Nat} (hn : n ≤ 1000) (x : List (List Int)) (hx : Qil n x) (hl : x.length ≤ 100000) : ∃ R : List Int, R.length = n ∧ Ev (fun k => Qbg.f k (n : Int) x) R := by
 obtain ⟨R, hR, e⟩ := Qmv hn x hx hl n 0 (by omega) (List.replicate n 0) (by simp)
 refine ⟨R, hR, Qh (by omega) (Qh (by omega) ?_)⟩
 rw [Int.toNat_natCast]
 exact e
def rectB (a b : Nat) : Bool := match Qbd.f 400 (a : Int) (b : Int) with
 | some r => r.length == a * b
 | none => false
theorem rect_all : ((List.range' 1 2).all fun a => (List.range' 1 5).all fun b => rectB a b) = true := by decide +kernel
theorem rect_ok {a b : Nat} (h1 : 1 ≤ a) (h2 : a ≤ 2) (h3 : 1 ≤ b) (h4 : b ≤ 5) : ∃ R : List Int, R.length = a * b ∧ Ev (fun k => Qbd.f k (a : Int) (b : Int)) R := by
 have h := rect_all
 rw [List.all_eq_true] at h
 have h := h a (by rw [List.mem_range'_1]; omega)
 rw [List.all_eq_true] at h
 have h := h b (by rw [List.mem_range'_1]; omega)
 unfold rectB at h
 split at h
 ·
  rename_i r e
  exact ⟨r, beq_iff_eq.mp h, Ev.of (Qbd.mono _ _) e⟩
 ·
  cases h
def stairB (a : Nat) : Bool := match Qx.f 60 (a : Int) with
 | some r => decide (1 ≤ r.1.length) && decide (r.1.length ≤ 10) && r.2
 | none => false
theorem Qqj : ((List.range' 1 2).all stairB) = true := by decide +kernel
theorem stair_ok {a : Nat} (h1 : 1 ≤ a) (h2 : a ≤ 2) : ∃ R : List Int × Bool, 1 ≤ R.1.length ∧ R.1.length ≤ 10 ∧ Ev (fun k => Qx.f k (a : Int)) R := by
 have h := Qqj
 rw [List.all_eq_true] at h
 have h := h a (by rw [List.mem_range'_1]; omega)
 unfold stairB at h
 split at h
 ·
  rename_i r e
  rw [Bool.and_eq_true, Bool.and_eq_true, decide_eq_true_eq, decide_eq_true_eq] at h
  exact ⟨r, h.1.1, h.1.2, Ev.of (Qx.mono _) e⟩
 ·
  cases h
def fenceB (a : Nat) : Bool := match Qcm.f 400 (a : Int) with
 | some r => r.1.length == a
 | none => false
theorem Qp6 : ((List.range' 1 10).all fenceB) = true := by decide +kernel
theorem fence_ok {a : Nat} (h1 : 1 ≤ a) (h2 : a ≤ 10) : ∃ R : List Int × Bool, R.1.length = a ∧ Ev (fun k => Qcm.f k (a : Int)) R := by
 have h := Qp6
 rw [List.all_eq_true] at h
 have h := h a (by rw [List.mem_range'_1]; omega)
 unfold fenceB at h
 split at h
 ·
  rename_i r e
  exact ⟨r, beq_iff_eq.mp h, Ev.of (Qcm.mono _) e⟩
 ·
  cases h
theorem Qpe {c : List Int} {n : Nat} (hn : 1 ≤ n) (hn2 : n ≤ 10) : ∀ (d : Nat) (x : List (List Int)) (t s : Int) (m : Nat), Cu c t m → m + 4 * d ≤ 100000 → Qil n x → x.length + d ≤ 1000 →
  ∃ (R : List Int) (t' s' : Int), R.length = n ∧ Cu c t' (m + 4 * d) ∧ Ev (fun k => Qr.l0 k (n : Int) x (d : Int) c t s) (R, t', s')
 | 0, x, t, s, m, h, hm, hx, hl => by
  obtain ⟨R, hR, e⟩ := Qjt (n := n) (by omega) x hx (by omega)
  refine ⟨R, t, s, hR, h.mono (by omega), Ev.step (fun _ => Qr.l0.eq_2 ..) (Qbj (by omega) (Ev.step (fun _ => Qr.j1.eq_2 ..) (Qbj (by simp) ?_)))⟩
  exact Ev.bind e (Ev.now _)
 | d + 1, x, t, s, m, h, hm, hx, hl => by
  by_cases c1 : n ≤ 1
  ·
   obtain ⟨R, hR, e⟩ := Qjt (n := n) (by omega) x hx (by omega)
   refine ⟨R, t, s, hR, h.mono (by omega), Ev.step (fun _ => Qr.l0.eq_2 ..) (Qh (by omega) (Ev.step (fun _ => Qr.j1.eq_2 ..) (Qbj (by rw [decide_eq_true_eq]; omega) ?_)))⟩
   exact Ev.bind e (Ev.now _)
  ·
   obtain ⟨v, t1, s1, e1, v0, v1, h1⟩ := Qeq (s := s) (wrap64 ((n : Int) - 1)) h (by omega)
   obtain ⟨v2, t2, s2, e2, w0, w1, h2⟩ := Qeq (s := s1) (wrap64 (wrap64 ((n : Int) - 1) - v)) h1 (by omega)
   rw [Qdg (x := (n : Int) - 1) (by omega) (by omega)] at v1
   obtain ⟨R, t3, s3, hR, h3, e3⟩ := Qpe hn hn2 d (x ++ [[v, wrap64 (wrap64 (v + 1) + v2)]]) t2 s2 (m + 4) (h2.mono (by omega)) (by omega) (fun z hz => by
    rcases List.mem_append.mp hz with hz | hz
    ·
     exact hx z hz
    ·
     rw [List.mem_singleton] at hz
     exact ⟨v, _, hz, v0, by omega⟩) (by rw [List.length_append, List.length_singleton]; omega)
   refine ⟨R, t3, s3, hR, h3.mono (by omega), Ev.step (fun _ => Qr.l0.eq_2 ..) (Qh (by omega) (Ev.step (fun _ => Qr.j1.eq_2 ..) (Qh (by rw [decide_eq_true_eq]; omega) ?_)))⟩
   refine Qbv e1 (Qbv e2 (Qh (by omega) ?_))
   rw [show wrap64 (((d + 1 : Nat) : Int) - 1) = (d : Int) by rw [Qdg (by omega) (by omega)]; omega]
   exact e3
theorem most_eq (a : Nat) (ha : a ≤ 10) : Qed.f 1 (wrap64 (Int.tdiv (a : Int) 2)) = some ((max 1 (a / 2) : Nat) : Int) := by
 have e : wrap64 (Int.tdiv (a : Int) 2) = ((a / 2 : Nat) : Int) := by
  rw [Int.tdiv_eq_ediv_of_nonneg (by omega), Qdg (by omega) (by omega)]; omega
 rw [e]; unfold Qed.f; split <;> (congr 1; omega)
theorem Qgk (n : Nat) (h : n ≤ 1000) : wrap64 (1 + (n : Int)) = ((1 + n : Nat) : Int) := by rw [Qdg (by omega) (by omega)]; omega
def Qk6 (c : List Int) (m : Nat) (f : Nat → Option (List Int × Int × Int)) : Prop := ∃ (R : List Int) (t' s' : Int), 1 ≤ R.length ∧ R.length ≤ 10 ∧ Cu c t' (m + 200) ∧ Ev f (R, t', s')
theorem sure_0 {c : List Int} {t s : Int} {m a : Nat} (ha : 1 ≤ a) (ha2 : a ≤ 10) (h : Cu c t (m + 2)) (hm : m ≤ 10000) :
  Qk6 c m (fun k => (Qz.f c t s 2).bind fun bt176 => (Qed.f 1 (wrap64 (Int.tdiv (a : Int) 2))).bind fun t179 => (Qz.f c bt176.2.1 bt176.2.2 t179).bind fun bt180 => (Qbd.f k (wrap64 (1 + bt176.1)) (wrap64 (1 + bt180.1))).bind fun t183 => some (t183, bt180.2.1, bt180.2.2)) := by
 obtain ⟨w, t2, s2, e2, w0, w1, k2⟩ := Qeq (s := s) 2 h (by omega)
 obtain ⟨wn, rfl⟩ : ∃ n : Nat, w = (n : Int) := ⟨w.toNat, by omega⟩
 obtain ⟨u, t3, s3, e3, u0, u1, k3⟩ := Qeq (s := s2) ((max 1 (a / 2) : Nat) : Int) k2 (by omega)
 obtain ⟨un, rfl⟩ : ∃ n : Nat, u = (n : Int) := ⟨u.toNat, by omega⟩
 have hw : 1 + wn ≤ 2 := by omega
 have hu : 1 + un ≤ 5 := by omega
 obtain ⟨R, hR, e4⟩ := rect_ok (a := 1 + wn) (b := 1 + un) (Nat.le_add_right _ _) hw (Nat.le_add_right _ _) hu
 have hl : R.length ≤ 10 := by rw [hR]; exact Nat.mul_le_mul hw hu
 have hl0 : 1 ≤ R.length := by rw [hR]; exact Nat.mul_le_mul (Nat.le_add_right 1 wn) (Nat.le_add_right 1 un)
 refine ⟨R, t3, s3, hl0, hl, k3.mono (by omega), Qbv e2 (Qbv (most_eq a ha2) (Qbv e3 ?_))⟩
 dsimp only
 rw [Qgk wn (by omega), Qgk un (by omega)]
 exact Ev.bind e4 (Ev.now _)
theorem sure_1 {c : List Int} {t s : Int} {m : Nat} (h : Cu c t (m + 2)) (hm : m ≤ 10000) :
  Qk6 c m (fun k => (Qz.f c t s 2).bind fun bt186 => (Qx.f k (wrap64 (1 + bt186.1))).bind fun bt189 => some (bt189.1, bt186.2.1, bt186.2.2)) := by
 obtain ⟨w, t2, s2, e2, w0, w1, k2⟩ := Qeq (s := s) 2 h (by omega)
 obtain ⟨wn, rfl⟩ : ∃ n : Nat, w = (n : Int) := ⟨w.toNat, by omega⟩
 obtain ⟨R, hR, hR2, e4⟩ := stair_ok (a := 1 + wn) (by omega) (by omega)
 refine ⟨R.1, t2, s2, hR, hR2, k2.mono (by omega), Qbv e2 ?_⟩
 dsimp only
 rw [Qgk wn (by omega)]
 exact Ev.bind e4 (Ev.now _)
theorem sure_2 {c : List Int} {t s : Int} {m a : Nat} (ha : 1 ≤ a) (ha2 : a ≤ 10) (h : Cu c t (m + 2)) (hm : m ≤ 10000) :
  Qk6 c m (fun k => (Qz.f c t s (a : Int)).bind fun bt194 => (Qcm.f k (wrap64 (1 + bt194.1))).bind fun bt197 => some (bt197.1, bt194.2.1, bt194.2.2)) := by
 obtain ⟨w, t2, s2, e2, w0, w1, k2⟩ := Qeq (s := s) (a : Int) h (by omega)
 obtain ⟨wn, rfl⟩ : ∃ n : Nat, w = (n : Int) := ⟨w.toNat, by omega⟩
 obtain ⟨R, hR, e4⟩ := fence_ok (a := 1 + wn) (by omega) (by omega)
 refine ⟨R.1, t2, s2, by omega, by omega, k2.mono (by omega), Qbv e2 ?_⟩
 dsimp only
 rw [Qgk wn (by omega)]
 exact Ev.bind e4 (Ev.now _)
theorem Qqm (n : Nat) (h : n ≤ 1000) : wrap64 (2 * ((n : Nat) : Int)) = ((2 * n : Nat) : Int) := by rw [Qdg (by omega) (by omega)]; omega
theorem sure_3 {c : List Int} {t s : Int} {m a : Nat} (ha : 1 ≤ a) (ha2 : a ≤ 10) (h : Cu c t (m + 2)) (hm : m ≤ 10000) :
  Qk6 c m (fun k => (Qz.f c t s (a : Int)).bind fun bt202 => (Qz.f c bt202.2.1 bt202.2.2 (wrap64 (2 * (wrap64 (1 + bt202.1))))).bind fun bt205 => Qr.l0 k (wrap64 (1 + bt202.1)) ([] : List (List Int)) bt205.1 c bt205.2.1 bt205.2.2) := by
 obtain ⟨w, t2, s2, e2, w0, w1, k2⟩ := Qeq (s := s) (a : Int) h (by omega)
 obtain ⟨wn, rfl⟩ : ∃ n : Nat, w = (n : Int) := ⟨w.toNat, by omega⟩
 obtain ⟨u, t3, s3, e3, u0, u1, k3⟩ := Qeq (s := s2) ((2 * (1 + wn) : Nat) : Int) k2 (by omega)
 obtain ⟨un, rfl⟩ : ∃ n : Nat, u = (n : Int) := ⟨u.toNat, by omega⟩
 obtain ⟨R, t4, s4, hR, k4, e4⟩ := Qpe (c := c) (n := 1 + wn) (by omega) (by omega) un [] t3 s3 (m + 6) (k3.mono (by omega)) (by omega) (fun z hz => by cases hz) (by rw [List.length_nil]; omega)
 refine ⟨R, t4, s4, by omega, by omega, k4.mono (by omega), Qbv e2 ?_⟩
 dsimp only
 rw [Qgk wn (by omega), Qqm (1 + wn) (by omega)]
 exact Qbv e3 e4
theorem Qpf {c : List Int} {t s : Int} {m : Nat} {a : Nat} (h1 : 1 ≤ a) (h2 : a ≤ 10) (h : Cu c t m) (hm : m ≤ 10000) : Qk6 c m (fun k => Qr.f k c t s (a : Int)) := by
 obtain ⟨v, t1, s1, e1, v0, v1, k1⟩ := Qeq (s := s) 5 h (by omega)
 by_cases c0 : v = 0
 ·
  obtain ⟨R, t', s', a1, a2, a3, e⟩ := sure_0 (s := s1) h1 h2 k1 hm
  exact ⟨R, t', s', a1, a2, a3, Qbv e1 (Qh c0 e)⟩
 ·
  by_cases c1 : v = 1
  ·
   obtain ⟨R, t', s', a1, a2, a3, e⟩ := sure_1 (s := s1) k1 hm
   exact ⟨R, t', s', a1, a2, a3, Qbv e1 (Qbj c0 (Qh c1 e))⟩
  ·
   by_cases c2 : v = 2
   ·
    obtain ⟨R, t', s', a1, a2, a3, e⟩ := sure_2 (s := s1) h1 h2 k1 hm
    exact ⟨R, t', s', a1, a2, a3, Qbv e1 (Qbj c0 (Qbj c1 (Qh c2 e)))⟩
   ·
    obtain ⟨R, t', s', a1, a2, a3, e⟩ := sure_3 (s := s1) h1 h2 k1 hm
    exact ⟨R, t', s', a1, a2, a3, Qbv e1 (Qbj c0 (Qbj c1 (Qbj c2 e)))⟩
theorem Qn9 (c : List Int) (t s : Int) : ∀ (d i : Nat) (F : List Int), i + d = 11 → F.length + d ≤ 1000 → ∃ R : List Int, R.length = F.length + d ∧ Ev (fun k => Qbl.l0 k (i : Int) c t s F) (R, t, s)
 | 0, i, F, h, hF => ⟨F, rfl, Ev.step (fun _ => Qbl.l0.eq_2 ..) (Qbj (by omega) (Ev.now _))⟩
 | d + 1, i, F, h, hF => by
  obtain ⟨R, hR, e⟩ := Qn9 c t s d (i + 1) (F ++ [0]) (by omega) (by rw [List.length_append, List.length_singleton]; omega)
  refine ⟨R, by rw [hR, List.length_append, List.length_singleton]; omega, Ev.step (fun _ => Qbl.l0.eq_2 ..) (Qh (by omega) (Qh (by omega) ?_))⟩
  rw [Qbz (by omega)]; exact e
theorem Qoa {c : List Int} {t s : Int} {m : Nat} {a : Nat} (h1 : 1 ≤ a) (h2 : a ≤ 10) (h : Cu c t m) (hm : m ≤ 5000) : ∃ (R : List Int) (t' s' : Int), R.length ≤ 21 ∧ Cu c t' (m + 300) ∧ Ev (fun k => Qbl.f k c t s (a : Int)) (R, t', s') := by
 obtain ⟨R, t1, s1, hR, hR2, k1, e1⟩ := Qpf (s := s) h1 h2 h (by omega)
 obtain ⟨v, t2, s2, e2, v0, v1, k2⟩ := Qeq (s := s1) 20 k1 (by omega)
 have eo := l1Own_eq R (by omega)
 by_cases c0 : v = 0
 ·
  obtain ⟨w, t3, s3, e3, w0, w1, k3⟩ := Qeq (s := s2) (R.length : Int) k2 (by omega)
  obtain ⟨u, t4, s4, e4, _, k4⟩ := Qni (s := s3) [(-1), 1, 3, shl .i64 1 w, 4611686018427387904] (by simp) k3 (by omega)
  refine ⟨R.set w.toNat u, t4, s4, by rw [List.length_set]; omega, k4.mono (by omega), Ev.bind e1 (Qbv eo (Qbv e2 (Qh c0 (Qbv e3 (Qh w0 (Qbv e4 (Qh ?_ (Ev.now _))))))))⟩
  show w < (R.length : Int)
  omega
 ·
  by_cases c1 : v = 1
  ·
   exact ⟨[], t2, s2, by simp, k2.mono (by omega), Ev.bind e1 (Qbv eo (Qbv e2 (Qbj c0 (Qh c1 (Ev.now _)))))⟩
  ·
   by_cases c2 : v = 2
   ·
    obtain ⟨F, hF, e⟩ := Qn9 c t2 s2 11 0 R (by omega) (by omega)
    exact ⟨F, t2, s2, by omega, k2.mono (by omega), Ev.bind e1 (Qbv eo (Qbv e2 (Qbj c0 (Qbj c1 (Qh c2 e)))))⟩
   ·
    exact ⟨R, t2, s2, by omega, k2.mono (by omega), Ev.bind e1 (Qbv eo (Qbv e2 (Qbj c0 (Qbj c1 (Qbj c2 (Ev.now _))))))⟩
def Qpd (a : Nat) : Bool := match Qx.f 200 (a : Int) with
 | some r => decide (1 ≤ r.1.length) && decide (r.1.length ≤ 10) && r.2
 | none => false
theorem Qpv : ((List.range' 1 3).all Qpd) = true := by decide +kernel
theorem Qqk {a : Nat} (h1 : 1 ≤ a) (h2 : a ≤ 3) : ∃ R : List Int × Bool, 1 ≤ R.1.length ∧ R.1.length ≤ 10 ∧ Ev (fun k => Qx.f k (a : Int)) R := by
 have h := Qpv
 rw [List.all_eq_true] at h
 have h := h a (by rw [List.mem_range'_1]; omega)
 unfold Qpd at h
 split at h
 ·
  rename_i r e
  rw [Bool.and_eq_true, Bool.and_eq_true, decide_eq_true_eq, decide_eq_true_eq] at h
  exact ⟨r, h.1.1, h.1.2, Ev.of (Qx.mono _) e⟩
 ·
  cases h
def PosR (c : List Int) (M : Nat) (f : Nat → Option (List Int × Int × Int)) : Prop := ∃ (R : List Int) (t' s' : Int), R.length ≤ 21 ∧ Cu c t' M ∧ Ev f (R, t', s')
theorem Qmy {c : List Int} {t s : Int} {m : Nat} (R : List Int) (hR : R.length ≤ 21) (h : Cu c t m) (hm : m ≤ 100000) : PosR c (m + 10) (fun k => Q0.j1 k c t s R) := by
 obtain ⟨o, t1, s1, e1, k1⟩ := Qjq (s := s) 4 h (by omega)
 by_cases ho : o = true
 ·
  obtain ⟨v, t2, s2, e2, v0, v1, k2⟩ := Qeq (s := s1) 3 k1 (by omega)
  obtain ⟨vn, rfl⟩ : ∃ n : Nat, v = (n : Int) := ⟨v.toNat, by omega⟩
  obtain ⟨Q, q1, q2, e3⟩ := Qqk (a := 1 + vn) (by omega) (by omega)
  refine ⟨Q.1, t2, s2, by omega, k2.mono (by omega), Ev.step (fun _ => Q0.j1.eq_2 ..) (Qbv e1 (Qh ho (Qbv e2 ?_)))⟩
  dsimp only
  rw [Qgk vn (by omega)]
  exact Ev.bind e3 (Ev.now _)
 ·
  exact ⟨R, t1, s1, hR, k1.mono (by omega), Ev.step (fun _ => Q0.j1.eq_2 ..) (Qbv e1 (Qbj ho (Ev.now _)))⟩
theorem Qmz {c : List Int} {a : Nat} (h1 : 1 ≤ a) (h2 : a ≤ 10) : ∀ (d i : Nat) (R : List Int) (t s : Int) (m : Nat), i + d = 4 → R.length ≤ 21 → Cu c t m → m + 200 * d ≤ 6000 →
  PosR c (m + 200 * d + 10) (fun k => Q0.l0 k (a : Int) (i : Int) c t s R)
 | 0, i, R, t, s, m, h, hR, hc, hm => by
  obtain ⟨R', t', s', g1, g2, e⟩ := Qmy (s := s) R hR hc (by omega)
  exact ⟨R', t', s', g1, g2, Ev.step (fun _ => Q0.l0.eq_2 ..) (Qbj (by omega) e)⟩
 | d + 1, i, R, t, s, m, h, hR, hc, hm => by
  obtain ⟨R1, t1, s1, g1, g2, e1⟩ := Qmy (s := s) R hR hc (by omega)
  by_cases hg : Qf1 R = true
  ·
   obtain ⟨p, rfl, g⟩ := Qfr hg
   by_cases hr : Qer p = true
   ·
    exact ⟨R1, t1, s1, g1, g2.mono (by omega), Ev.step (fun _ => Q0.l0.eq_2 ..) (Qh (by omega) (Ev.bind (Qe5 _) (Qh hg (Ev.bind (Qij g) (Qh hr e1)))))⟩
   ·
    obtain ⟨Q, t2, s2, q1, q2, q3, e2⟩ := Qpf (s := s) h1 h2 hc (by omega)
    obtain ⟨R3, t3, s3, g3, k3, e3⟩ := Qmz h1 h2 d (i + 1) Q t2 s2 (m + 200) (by omega) (by omega) q3 (by omega)
    refine ⟨R3, t3, s3, g3, k3.mono (by omega), Ev.step (fun _ => Q0.l0.eq_2 ..) (Qh (by omega) (Ev.bind (Qe5 _) (Qh hg (Ev.bind (Qij g) (Qbj hr (Ev.bind e2 ?_))))))⟩
    rw [Qbz (by omega)]; exact e3
  ·
   exact ⟨R1, t1, s1, g1, g2.mono (by omega), Ev.step (fun _ => Q0.l0.eq_2 ..) (Qh (by omega) (Ev.bind (Qe5 _) (Qbj hg e1)))⟩
theorem Qju {c : List Int} {t s : Int} {m : Nat} {a : Nat} (h1 : 1 ≤ a) (h2 : a ≤ 10) (h : Cu c t m) (hm : m ≤ 4000) : PosR c (m + 1200) (fun k => Q0.f k c t s (a : Int)) := by
 obtain ⟨R, t1, s1, hR, k1, e1⟩ := Qoa (s := s) h1 h2 h (by omega)
 obtain ⟨R2, t2, s2, g2, k2, e2⟩ := Qmz (c := c) h1 h2 4 0 R t1 s1 (m + 300) (by omega) hR k1 (by omega)
 exact ⟨R2, t2, s2, g2, k2.mono (by omega), Ev.bind e1 e2⟩
theorem least_12 (n : Nat) : Qe7.f (n : Int) 12 = some ((min n 12 : Nat) : Int) := by unfold Qe7.f; split <;> (congr 1; omega)
theorem Qi7 {c : List Int} {t s : Int} {m : Nat} (l : List Int) (h : Cu c t m) (hm : m ≤ 100000) : ∃ v t' s', Qck.f c t s l = some (v, t', s') ∧ Cu c t' (m + 8) := by
 obtain ⟨a, t1, s1, e1, _, _, k1⟩ := Qeq (s := s) 256 h (by omega)
 obtain ⟨b, t2, s2, e2, _, _, k2⟩ := Qeq (s := s1) 16 k1 (by omega)
 obtain ⟨o, t3, s3, e3, k3⟩ := Qjq (s := s2) 12 k2 (by omega)
 unfold Qck.f
 rw [least_12, Option.bind_some, e1, Option.bind_some]
 dsimp only
 rw [e2, Option.bind_some, if_pos (by omega)]
 dsimp only
 rw [e3, Option.bind_some]
 dsimp only
 by_cases ho : o = true
 ·
  obtain ⟨u, t4, s4, e4, _, k4⟩ := Qni (s := s3) [(-1), shl .i64 1 ((min l.length 12 : Nat) : Int), 0, wrap64 ((shl .i64 1 ((min l.length 12 : Nat) : Int)) - 1), 4611686018427387904] (by simp) k3 (by omega)
  rw [if_pos ho, e4, Option.bind_some]
  exact ⟨_, _, _, rfl, k4⟩
 ·
  rw [if_neg ho]
  exact ⟨_, _, _, rfl, k3.mono (by omega)⟩
theorem Qov {s : Nat} (b : Int) (h : s < 2 ^ 62) : ∃ v : Nat, v ≤ s ∧ Go.bits .and .i64 (s : Int) b = (v : Int) := by
 have e1 : (BitVec.ofInt IntKind.i64.bits (s : Int)).toNat = s := by
  show (BitVec.ofInt 64 (s : Int)).toNat = s
  rw [BitVec.toNat_ofInt]; omega
 refine ⟨(BitVec.ofInt IntKind.i64.bits (s : Int)).toNat &&& (BitVec.ofInt IntKind.i64.bits b).toNat, ?_, ?_⟩
 ·
  exact Nat.le_trans Nat.and_le_left (by rw [e1]; exact Nat.le_refl _)
 ·
  simp only [Go.bits, BitVec.toNat_and]
  have h2 : (BitVec.ofInt IntKind.i64.bits (s : Int)).toNat &&& (BitVec.ofInt IntKind.i64.bits b).toNat ≤ s := Nat.le_trans Nat.and_le_left (by rw [e1]; exact Nat.le_refl _)
  exact Qg2 (by omega)
def IdR (c : List Int) (M : Nat) (f : Nat → Option (List Int × Int × Int × Int)) : Prop := ∃ (R : List Int) (v t' s' : Int), R.length ≤ 21 ∧ Cu c t' M ∧ Ev f (R, v, t', s')
theorem Qis {c : List Int} {t s : Int} {m : Nat} (R : List Int) (v : Int) (b : Bool) (hR : R.length ≤ 21) (h : Cu c t m) (hm : m ≤ 100000) (hb : b = true → setB R v = true) : IdR c (m + 10) (fun k => Q5.j0 k v b c t s R) := by
 cases b with
 | false => exact ⟨R, v, t, s, hR, h.mono (by omega), Ev.step (fun _ => Q5.j0.eq_2 ..) (Qbj (by simp) (Ev.now _))⟩
 | true =>
  obtain ⟨p, x, rfl, rfl, g, hx⟩ := Qka (hb rfl)
  have gl := g.le
  obtain ⟨u, t1, s1, e1, k1⟩ := Qi7 (s := s) (toI p) h hm
  have hx62 : x < 2 ^ 62 := Nat.lt_of_lt_of_le hx (Nat.pow_le_pow_right (by omega) (by omega))
  obtain ⟨w, hw, ew⟩ := Qov u hx62
  have hw2 : w < 2 ^ p.length := by omega
  refine ⟨toI p, ((Qgc p (top p w) : Nat) : Int), t1, s1, hR, k1.mono (by omega), Ev.step (fun _ => Q5.j0.eq_2 ..) (Qh rfl (Qbv e1 ?_))⟩
  dsimp only
  rw [ew]
  exact Ev.bind (Qk1 g hw2) (Ev.bind (Qmu g (Qok hw2)) (Ev.now _))
theorem Qmc {c : List Int} {t s : Int} {m : Nat} {a : Nat} (h1 : 1 ≤ a) (h2 : a ≤ 10) (h : Cu c t m) (hm : m ≤ 4000) : IdR c (m + 1300) (fun k => Q5.f k c t s (a : Int)) := by
 obtain ⟨R, t1, s1, hR, k1, e1⟩ := Qju (s := s) h1 h2 h hm
 obtain ⟨v, t2, s2, e2, k2⟩ := Qi7 (s := s1) R k1 (by omega)
 obtain ⟨Q, w, t3, s3, g3, k3, e3⟩ := Qis (s := s2) R v false hR k2 (by omega) (fun e => by cases e)
 by_cases hg : Qf1 R = true
 ·
  obtain ⟨p, rfl, g⟩ := Qfr hg
  by_cases hs : inB v 0 ((2 ^ p.length - 1 : Nat) : Int) = true
  ·
   obtain ⟨o, t4, s4, e4, k4⟩ := Qjq (s := s2) 12 k2 (by omega)
   obtain ⟨Q', w', t5, s5, g5, k5, e5⟩ := Qis (s := s4) (toI p) v (!o) hR k4 (by omega) (fun _ => by unfold setB; rw [hg, toI_len, hs]; rfl)
   exact ⟨Q', w', t5, s5, g5, k5.mono (by omega), Ev.bind e1 (Qbv e2 (Ev.bind (Qe5 _) (Qh hg (Qbv (Qgz p v g.le) (Qh hs (Qbv e4 e5))))))⟩
  ·
   exact ⟨Q, w, t3, s3, g3, k3.mono (by omega), Ev.bind e1 (Qbv e2 (Ev.bind (Qe5 _) (Qh hg (Qbv (Qgz p v g.le) (Qbj hs e3)))))⟩
 ·
  exact ⟨Q, w, t3, s3, g3, k3.mono (by omega), Ev.bind e1 (Qbv e2 (Ev.bind (Qe5 _) (Qbj hg e3)))⟩
theorem Qnx {c : List Int} {t s : Int} {m : Nat} (R : List Int) (v : Int) (b : Bool) (hR : R.length ≤ 21) (h : Cu c t m) (hm : m ≤ 100000) (hb : b = true → setB R v = true) : IdR c (m + 10) (fun k => Qbo.j0 k v b c t s R) := by
 cases b with
 | false => exact ⟨R, v, t, s, hR, h.mono (by omega), Ev.step (fun _ => Qbo.j0.eq_2 ..) (Qbj (by simp) (Ev.now _))⟩
 | true =>
  obtain ⟨p, x, rfl, rfl, g, hx⟩ := Qka (hb rfl)
  have gl := g.le
  obtain ⟨u, t1, s1, e1, k1⟩ := Qi7 (s := s) (toI p) h hm
  have hx62 : x < 2 ^ 62 := Nat.lt_of_lt_of_le hx (Nat.pow_le_pow_right (by omega) (by omega))
  obtain ⟨w, hw, ew⟩ := Qov u hx62
  have hw2 : w < 2 ^ p.length := by omega
  refine ⟨toI p, ((Qgc p (top p w) : Nat) : Int), t1, s1, hR, k1.mono (by omega), Ev.step (fun _ => Qbo.j0.eq_2 ..) (Qh rfl (Qbv e1 ?_))⟩
  dsimp only
  rw [ew]
  exact Ev.bind (Qk1 g hw2) (Ev.bind (Qmu g (Qok hw2)) (Ev.now _))
theorem ideal_ok {c : List Int} {t s : Int} {m : Nat} {a : Nat} (h1 : 1 ≤ a) (h2 : a ≤ 10) (h : Cu c t m) (hm : m ≤ 4000) : IdR c (m + 1300) (fun k => Qbo.f k c t s (a : Int)) := by
 obtain ⟨R, t1, s1, hR, k1, e1⟩ := Qoa (s := s) h1 h2 h (by omega)
 obtain ⟨v, t2, s2, e2, k2⟩ := Qi7 (s := s1) R k1 (by omega)
 obtain ⟨Q, w, t3, s3, g3, k3, e3⟩ := Qnx (s := s2) R v false hR k2 (by omega) (fun e => by cases e)
 by_cases hg : Qf1 R = true
 ·
  obtain ⟨p, rfl, g⟩ := Qfr hg
  by_cases hs : inB v 0 ((2 ^ p.length - 1 : Nat) : Int) = true
  ·
   obtain ⟨o, t4, s4, e4, k4⟩ := Qjq (s := s2) 12 k2 (by omega)
   obtain ⟨Q', w', t5, s5, g5, k5, e5⟩ := Qnx (s := s4) (toI p) v (!o) hR k4 (by omega) (fun _ => by unfold setB; rw [hg, toI_len, hs]; rfl)
   exact ⟨Q', w', t5, s5, g5, k5.mono (by omega), Ev.bind e1 (Qbv e2 (Ev.bind (Qe5 _) (Qh hg (Qbv (Qgz p v g.le) (Qh hs (Qbv e4 e5))))))⟩
  ·
   exact ⟨Q, w, t3, s3, g3, k3.mono (by omega), Ev.bind e1 (Qbv e2 (Ev.bind (Qe5 _) (Qh hg (Qbv (Qgz p v g.le) (Qbj hs e3)))))⟩
 ·
  exact ⟨Q, w, t3, s3, g3, k3.mono (by omega), Ev.bind e1 (Qbv e2 (Ev.bind (Qe5 _) (Qbj hg e3)))⟩
def Draw1 (f : Nat → Option (List Int)) : Prop := ∃ R : List Int, R.length ≤ 21 ∧ Ev f R
def Draw2 (f : Nat → Option (List Int × Int)) : Prop := ∃ (R : List Int) (v : Int), R.length ≤ 21 ∧ Ev f (R, v)
theorem Ql8 {c : List Int} (h : Cu c 0 0) : Draw2 (fun k => Qdk.f k c) := by
 obtain ⟨R, v, t, s, hR, _, e⟩ := Qmc (s := 0) (a := 10) (by omega) (by omega) h (by omega)
 exact ⟨R, v, hR, Ev.bind e (Ev.now _)⟩
theorem Qkt {c : List Int} (h : Cu c 0 0) : Draw2 (fun k => Qc8.f k c) := by
 obtain ⟨R, v, hR, e⟩ := Ql8 h
 exact ⟨R, v, hR, Ev.bind e (Ev.now _)⟩
theorem Qm8 {c : List Int} (h : Cu c 0 0) : Draw2 (fun k => Qdh.f k c) := by
 obtain ⟨R, v, t, s, hR, _, e⟩ := ideal_ok (s := 0) (a := 10) (by omega) (by omega) h (by omega)
 exact ⟨R, v, hR, Ev.bind (Ev.bind e (Ev.now _)) (Ev.now _)⟩
theorem Qm9 {c : List Int} (h : Cu c 0 0) : Draw1 (fun k => Qct.f k c) := by
 obtain ⟨R, t, s, hR, _, e⟩ := Qju (s := 0) (a := 7) (by omega) (by omega) h (by omega)
 exact ⟨R, hR, Ev.bind e (Ev.now _)⟩
theorem Qi9 {n : Nat} (hn : n ≤ 10) : ∀ (d i : Nat) (x : List (List Int)), 1 ≤ i → i + d = max n 1 → Qil n x → x.length ≤ i → ∃ R : List Int, R.length = n ∧ Ev (fun k => Qbh.l0 k (n : Int) x (i : Int)) R
 | 0, i, x, h1, h, hx, hl => by
  obtain ⟨R, hR, e⟩ := Qjt (n := n) (by omega) x hx (by omega)
  exact ⟨R, hR, Ev.step (fun _ => Qbh.l0.eq_2 ..) (Qbj (by omega) (Ev.bind e (Ev.now _)))⟩
 | d + 1, i, x, h1, h, hx, hl => by
  obtain ⟨R, hR, e⟩ := Qi9 hn d (i + 1) (x ++ [[((i - 1 : Nat) : Int), (i : Int)]]) (by omega) (by omega) (fun z hz => by
   rcases List.mem_append.mp hz with hz | hz
   ·
    exact hx z hz
   ·
    rw [List.mem_singleton] at hz
    exact ⟨_, _, hz, by omega, by omega⟩) (by rw [List.length_append, List.length_singleton]; omega)
  refine ⟨R, hR, Ev.step (fun _ => Qbh.l0.eq_2 ..) (Qh (by omega) (Qh (by omega) ?_))⟩
  rw [show wrap64 ((i : Int) - 1) = ((i - 1 : Nat) : Int) by rw [Qdg (by omega) (by omega)]; omega, Qbz (by omega)]
  exact e
theorem Qpm {c : List Int} (h : Cu c 0 0) : Draw1 (fun k => Qbh.f k c) := by
 obtain ⟨o, t1, s1, e1, k1⟩ := Qjq (s := 0) 4 h (by omega)
 by_cases ho : o = true
 ·
  obtain ⟨v, t2, s2, e2, v0, v1, k2⟩ := Qeq (s := s1) 10 k1 (by omega)
  obtain ⟨vn, rfl⟩ : ∃ n : Nat, v = (n : Int) := ⟨v.toNat, by omega⟩
  obtain ⟨R, hR, e⟩ := Qi9 (n := 1 + vn) (by omega) vn 1 [] (by omega) (by omega) (fun z hz => by cases hz) (Nat.zero_le _)
  refine ⟨R, by omega, Qbv e1 (Qh ho (Qbv e2 ?_))⟩
  dsimp only
  rw [Qgk vn (by omega)]
  exact e
 ·
  obtain ⟨R, t, s, hR, _, e⟩ := Qju (s := s1) (a := 10) (by omega) (by omega) k1 (by omega)
  exact ⟨R, hR, Qbv e1 (Qbj ho (Ev.bind e (Ev.now _)))⟩
theorem rvB_mk {p : List Nat} (g : Good p) (hr : Qer p = true) {s : Nat} (hs : IsId p s) : rvB (toI p) (s : Int) = true := by
 unfold rvB; rw [Qln g hs, Qof g hr]; rfl
section
variable {p : List Nat} (g : Good p) {s : Nat} (hs : IsId p s)
include g hs
theorem Qjx (hr : Qer p = true) : Ev (fun k => Qbs.f k (toI p) (s : Int)) (((rvac p s : Nat) : Int), true) := by
 have gh := Qd4 g
 have hv := Qgg (H := hgh p - 1) (by omega)
 exact Ev.bind (Qdr _ _) (Qh (rvB_mk g hr hs) (Ev.bind (Qgy g) (Ev.bind (Qft (by omega)) (Ev.bind (Qfn g _ (Qh0 g) (by omega) hs.1) (Ev.now _)))))
theorem Qlc (hr : Qer p = true) : Ev (fun k => Qbc.f k (toI p) (s : Int)) (((dvac p s : Nat) : Int), true) := by
 have gh := Qd4 g
 have hv := Qgg (H := hgh p - 1) (by omega)
 refine Ev.bind (Qdr _ _) (Qh (rvB_mk g hr hs) (Ev.bind (Qgy g) (Ev.bind (Qft (by omega)) ?_)))
 have := Qig g hs.1 (hgh p - 1) rfl (vac (hgh p - 1)) (fun x hx => Qg3 hx) (by omega) _ 0 [] (Nat.zero_add _) (by simp; omega) (by simp)
 rw [List.nil_append, List.drop_zero] at this
 exact this
omit hs in
theorem Qpa {n : Nat} (hn : n ≤ 1000) : ∀ (d i s : Nat), i + d = n → IsId p s → Ev (fun k => Qbq.l0 k (s : Int) (n : Int) (n : Int) (i : Int) (toI p)) ((itr (row p) d s : Nat) : Int)
 | 0, i, s, h, hs => by
  have e : mx (wrap64 (-(n : Int))) 0 = 0 := by
   rw [Qdg (by omega) (by omega)]; unfold mx; split <;> omega
  refine Ev.step (fun _ => Qbq.l0.eq_2 ..) (Qbj (by omega) ?_)
  rw [e]
  exact Ev.step (fun _ => Qbq.l1.eq_2 ..) (Qbj (by omega) (Ev.now _))
 | d + 1, i, s, h, hs => by
  refine Ev.step (fun _ => Qbq.l0.eq_2 ..) (Qh (by omega) (Ev.bind (row_ev g hs.1) ?_))
  rw [Qbz (by omega), Qma (row p) 1 s d]
  exact Qpa hn d (i + 1) (row p s) (by omega) (Qiv g hs)
theorem Qm6 {n : Nat} (hn : n ≤ 1000) : Ev (fun k => Qc1.f k (toI p) (s : Int) (n : Int)) (((itr (row p) n s : Nat) : Int), true) := by
 have h := Qpa g hn n 0 s (Nat.zero_add _) hs
 have hb : Ev (fun k => Qbq.f k (toI p) (s : Int) (n : Int)) ((itr (row p) n s : Nat) : Int) := by
  unfold Qbq.f
  rw [show mx (n : Int) 0 = (n : Int) by unfold mx; split <;> omega]
  exact h
 exact Ev.bind (Qge _ _) (Qh (Qln g hs) (Qbv (Qid _ _ _) (Qh (by rw [Qex]; omega) (Ev.bind hb (Ev.now _)))))
theorem Qi5 : Ev (fun k => Qdb.f k (toI p) (s : Int)) (((row p s : Nat) : Int), true) :=
 Ev.bind (Qm6 g hs (n := 1) (by omega)) (Ev.now _)
end
end Go.Proofs.YtkgngggppcmpfaaGreat.M
end
section
namespace Go.Proofs.YtkgngggppcmpfaaGreat.M
open Go.RowKit Go.Proofs.YtkgngggppcmpfaaGreatW.PrintWords Go.Proofs.YtkgngggppcmpfaaGreatW.PrintLast Go.Proofs.YtkgngggppcmpfaaGreatW.PrintMore Go.Proofs.YtkgngggppcmpfaaGreat.L
set_option linter.unusedVariables false
def Qfj (p : List Nat) (s : Nat) : Nat := (List.range' 0 p.length).foldl (fun o i => if s.testBit i = true then o else o ||| 2 ^ (p.length - 1 - i)) 0
theorem Qkg {α β : Type} {f g : α → β → α} : ∀ (l : List β) (a : α), (∀ a x, x ∈ l → f a x = g a x) → l.foldl f a = l.foldl g a
 | [], _, _ => rfl
 | x :: l, a, h => by
  rw [List.foldl_cons, List.foldl_cons, h a x List.mem_cons_self]
  exact Qkg l _ fun a y hy => h a y (List.mem_cons_of_mem _ hy)
theorem Qom {p : List Nat} {s i : Nat} (hi : i < p.length) : (sd (full p) s).testBit i = !s.testBit i := by
 rw [Qhc, Qku, decide_eq_true hi, Bool.true_and]
theorem Qg5 {i n : Nat} (h : i < n) : 2 ^ i < 2 ^ n := Nat.pow_lt_pow_right (by decide) h
theorem Qo0 {p : List Nat} (g : Good p) (s : Nat) (hs : s < 2 ^ p.length) : ∀ (d q a : Nat), q + d = (Qcy s).length → a < 2 ^ p.length →
  Ev (fun k => Qbm.l0 k (a : Int) (toI (Qcy s)) ((toI (Qcy s)).length : Int) (q : Int) (toI p)) ((((Qcy s).drop q).foldl (fun o e => o ||| 2 ^ (p.length - 1 - e)) a : Nat) : Int)
 | 0, q, a, h, ha => by
  refine Ev.step (fun _ => Qbm.l0.eq_2 ..) (Qbj (by rw [toI_len]; omega) ?_)
  rw [List.drop_of_length_le (by omega)]; exact Ev.now _
 | d + 1, q, a, h, ha => by
  have hq : q < (Qcy s).length := by omega
  have hm := Qg9 hq
  have hb := Qff hs hm.2
  have hl := Qf6 s
  have gl := g.le
  refine Ev.step (fun _ => Qbm.l0.eq_2 ..) ?_
  rw [Qhu hq, toI_len]
  refine Qh (by omega) (Qh (by omega) (Qh (by omega) (Qbv (n_eq _) ?_)))
  rw [toI_len, Qdg (x := (p.length : Int) - 1) (by omega) (by omega), Qdg (by omega) (by omega), show ((p.length : Int) - 1 - ((Qcy s)[q] : Nat)) = ((p.length - 1 - (Qcy s)[q] : Nat) : Int) by omega, Qfi (by omega)]
  refine Qh (by omega) ?_
  rw [Qgb (g.len63 ha) (M.lt63 (Qg5 (show p.length - 1 - (Qcy s)[q] < 11 by omega)) (by omega)), Qbz (by omega), List.drop_eq_getElem_cons hq, List.foldl_cons, ← toI_len (Qcy s)]
  exact Qo0 g s hs d (q + 1) _ (by omega) (Nat.or_lt_two_pow ha (Qg5 (by omega)))
theorem Qjj {p : List Nat} (g : Good p) {s : Nat} (hs : s < 2 ^ p.length) : Ev (fun k => Qbm.f k (toI p) (s : Int)) ((Qfj p s : Nat) : Int) := by
 have hd : sd (full p) s < 2 ^ p.length := Qi6 s (Qio p)
 refine Qbv (Qk8 g.le) ?_
 rw [Qfk (g.len63 (Qio p)) (g.len63 hs)]
 refine Ev.bind (Qgi (g.len63 hd)) ?_
 have h := Qo0 g _ hd (Qcy (sd (full p) s)).length 0 0 (by omega) (Nat.two_pow_pos _)
 rw [List.drop_zero, Qfg _ _ hd g.le] at h
 have e : Qcn p.length (sd (full p) s) (fun o e => o ||| 2 ^ (p.length - 1 - e)) 0 = Qfj p s := by
  unfold Qcn Qfj
  rw [List.range_eq_range']
  apply Qkg
  intro a x hx
  have hx' : x < p.length := by simp at hx; omega
  rw [Qom hx']
  cases s.testBit x <;> simp
 rw [← e]; exact h
theorem Qjw {p : List Nat} (g : Good p) (s : Nat) : ∀ (d i a : Nat), i + d = p.length → a < 2 ^ p.length →
  Ev (fun k => Qcf.l0 k (s : Int) (p.length : Int) (a : Int) (p.length : Int) (i : Int)) (((List.range' i d).foldl (fun o i => if s.testBit i = true then o else o ||| 2 ^ (p.length - 1 - i)) a : Nat) : Int)
 | 0, i, a, h, ha => by
  refine Ev.step (fun _ => Qcf.l0.eq_2 ..) (Qbj (by omega) ?_)
  exact Ev.now _
 | d + 1, i, a, h, ha => by
  have gl := g.le
  refine Ev.step (fun _ => Qcf.l0.eq_2 ..) (Qh (by omega) (Qbv (Qfz (by omega)) ?_))
  rw [Qbz (by omega), Qdg (x := (p.length : Int) - 1) (by omega) (by omega), Qdg (by omega) (by omega), show ((p.length : Int) - 1 - (i : Int)) = ((p.length - 1 - i : Nat) : Int) by omega, Qfi (by omega), List.range'_succ, List.foldl_cons,
   Qgb (g.len63 ha) (M.lt63 (Qg5 (show p.length - 1 - i < 11 by omega)) (by omega))]
  refine Qc7 (fun e => ?_) (fun e => ?_)
  ·
   rw [if_pos e]; exact Qjw g s d (i + 1) a (by omega) ha
  ·
   rw [if_neg e]
   exact Qh (by omega) (Qjw g s d (i + 1) _ (by omega) (Nat.or_lt_two_pow ha (Qg5 (by omega))))
theorem Qm3 {p : List Nat} (g : Good p) (s : Nat) : Ev (fun k => Qcf.f k (toI p) (s : Int)) ((Qfj p s : Nat) : Int) := by
 have h := Qjw g s p.length 0 0 (by omega) (Nat.two_pow_pos _)
 unfold Qcf.f Qfj
 rw [toI_len]; exact h
def Qfd (p : List Nat) (s : Nat) : Nat := (vac (hgh p - 1)).foldl (tgR p) s
theorem Qgt {p : List Nat} (g : Good p) : ∀ (d q : Nat) (acc : List Nat), q + d = (idls p).length → acc.length ≤ q →
  Ev (fun k => Qbk.l0 k (toI (vac (hgh p - 1))) (toI acc) (toI (idls p)) ((toI (idls p)).length : Int) (q : Int) (toI p)) (toI (acc ++ ((idls p).drop q).filter fun s => Qfd p s == s), true)
 | 0, q, acc, h, ha => by
  refine Ev.step (fun _ => Qbk.l0.eq_2 ..) (Qbj (by rw [toI_len]; omega) ?_)
  rw [List.drop_of_length_le (by omega), List.filter_nil, List.append_nil]
  exact Ev.now _
 | d + 1, q, acc, h, ha => by
  have hq : q < (idls p).length := by omega
  have gl := Qkv g
  have gh := Qd4 g
  have hv := Qgg (H := hgh p - 1) (by omega)
  have hm := Qkz.mp (List.getElem_mem hq)
  have e0 : rd (toI (idls p)) (q : Int) = (((idls p)[q] : Nat) : Int) := by rw [Qec]; simp [List.getD_eq_getElem?_getD, hq]
  refine Ev.step (fun _ => Qbk.l0.eq_2 ..) ?_
  rw [e0]
  refine Qh (by rw [toI_len]; omega) (Qh (by omega) (Qh (by rw [toI_len]; omega) (Ev.bind (Qib g _ (Qh0 g) (by omega) hm.1) ?_)))
  rw [Qbz (by omega), List.drop_eq_getElem_cons hq, List.filter_cons]
  refine Qc7 (fun e => ?_) (fun e => ?_)
  ·
   have e1 : (Qfd p (idls p)[q] == (idls p)[q]) = true := by rw [beq_iff_eq]; unfold Qfd; omega
   rw [if_pos e1]
   refine Qh (by rw [toI_len]; omega) ?_
   rw [← Qgq, ← Qgf]
   have e2 := Qgt g d (q + 1) (acc ++ [(idls p)[q]]) (by omega) (by rw [List.length_append, List.length_singleton]; omega)
   rw [List.append_assoc] at e2
   exact e2
  ·
   have e1 : ¬ (Qfd p (idls p)[q] == (idls p)[q]) = true := by rw [beq_iff_eq]; unfold Qfd; omega
   rw [if_neg e1]
   exact Qgt g d (q + 1) _ (by omega) (by omega)
theorem Qgh (l : List Int) (hl : l.length ≤ 1048576) : ∃ r : List Int × Bool, r.1.length ≤ 100000 ∧ Ev (fun k => Qbk.f k l) r ∧ Ev (fun k => Q8.f k l) r := by
 by_cases h : rgB l = true
 ·
  obtain ⟨p, rfl, g, hr⟩ := Qiu h
  have gh := Qd4 g
  have hv := Qgg (H := hgh p - 1) (by omega)
  have gl := Qkv g
  refine ⟨(toI ((idls p).filter fun s => Qfd p s == s), true), ?_, ?_, ?_⟩
  ·
   have := List.length_filter_le (fun s => Qfd p s == s) (idls p)
   show (toI _).length ≤ _
   rw [toI_len]; omega
  ·
   have := Qgt g (idls p).length 0 [] (by omega) (Nat.le_refl 0)
   rw [List.drop_zero, List.nil_append] at this
   exact Ev.bind (Qe6 _) (Qh h (Ev.bind (Qfu g) (Ev.bind (Qkl g) this)))
  ·
   refine Ev.bind (Qfl _) (Qh h (Ev.bind (Qgy g) (Ev.bind (Qft (by omega)) (Ev.bind (Qnb g) ?_))))
   obtain ⟨K, hK⟩ := Qns (f := fun k (s : Nat) => Ql.f k (toI p) (s : Int) (toI (vac (hgh p - 1)))) (r := fun s => ((Qfd p s : Nat) : Int)) (idls p) fun s hs => Qfn g _ (Qh0 g) (by omega) (Qkz.mp hs).1
   refine ⟨K, fun k hk => ?_⟩
   have ok : Q8.ok k (toI p) (toI (vac (hgh p - 1))) (toI (idls p)) = true := by
    unfold Q8.ok
    rw [List.all_eq_true]
    intro x hx
    unfold toI at hx
    rw [List.mem_map] at hx
    obtain ⟨s, hs, rfl⟩ := hx
    rw [hK k hk s hs]
    rfl
   show (if _ then _ else _) = _
   rw [if_pos ⟨by rw [toI_len]; omega, ok⟩]
   refine congrArg (fun q => some (q, true)) ?_
   have e : ∀ L : List Nat, (∀ s ∈ L, s ∈ idls p) → (toI L).filter (fun x => !Q8.p k (toI p) (toI (vac (hgh p - 1))) x) = toI (L.filter fun s => Qfd p s == s) := by
    intro L
    induction L with
    | nil => intro _; rfl
    | cons a L ih =>
     intro hL
     have e1 : (!Q8.p k (toI p) (toI (vac (hgh p - 1))) (a : Int)) = (Qfd p a == a) := by
      unfold Q8.p
      rw [hK k hk a (hL a List.mem_cons_self)]
      show (!((((Qfd p a : Nat) : Int)) != (a : Int))) = _
      rw [bne, Bool.not_not, Bool.eq_iff_iff, beq_iff_eq, beq_iff_eq]
      omega
     show ((a : Int) :: toI L).filter _ = toI ((a :: L).filter _)
     rw [List.filter_cons, List.filter_cons, e1, ih fun s hs => hL s (List.mem_cons_of_mem _ hs)]
     split <;> rfl
   exact e _ fun s hs => hs
 ·
  exact ⟨([], false), by simp, Ev.bind (Qe6 _) (Qbj h (Ev.now _)), Ev.bind (Qfl _) (Qbj h (Ev.now _))⟩
structure Arr (p y : List Nat) (b : Nat) : Prop where
 len : y.length = p.length
 hi : ∀ i, y.getD i 0 ≤ b
 up : ∀ i j, (less p i).testBit j = true → y.getD j 0 ≤ y.getD i 0
def lowN (p y : List Nat) (e : Nat) : Nat := Qcn p.length (less p e) (fun o j => max o (y.getD j 0)) 0
def Qj4 (p y : List Nat) (b e : Nat) : Nat := (List.range' 0 p.length).foldl (fun o i => if (less p i).testBit e = true then min o (y.getD i 0) else o) b
theorem Qle {s m : Nat} (f : Nat → Nat) : ∀ (n a : Nat), Qcn n s (fun o j => max o (f j)) a ≤ m ↔ (a ≤ m ∧ ∀ j, j < n → s.testBit j = true → f j ≤ m)
 | 0, a => by simp [Qcn]
 | n + 1, a => by
  rw [Qdq]
  have ih := Qle (s := s) (m := m) f n a
  split
  ·
   rename_i hs
   rw [Nat.max_le, ih]
   constructor
   ·
    rintro ⟨⟨h1, h2⟩, h3⟩
    refine ⟨h1, fun j hj hb => ?_⟩
    by_cases e : j = n
    ·
     subst e; exact h3
    ·
     exact h2 j (by omega) hb
   ·
    rintro ⟨h1, h2⟩
    exact ⟨⟨h1, fun j hj hb => h2 j (by omega) hb⟩, h2 n (by omega) hs⟩
  ·
   rename_i hs
   rw [ih]
   constructor
   ·
    rintro ⟨h1, h2⟩
    refine ⟨h1, fun j hj hb => ?_⟩
    by_cases e : j = n
    ·
     subst e; exact absurd hb hs
    ·
     exact h2 j (by omega) hb
   ·
    rintro ⟨h1, h2⟩
    exact ⟨h1, fun j hj hb => h2 j (by omega) hb⟩
theorem Qlf {m : Nat} (c : Nat → Bool) (f : Nat → Nat) : ∀ (l : List Nat) (a : Nat), m ≤ l.foldl (fun o i => if c i = true then min o (f i) else o) a ↔ (m ≤ a ∧ ∀ i, i ∈ l → c i = true → m ≤ f i)
 | [], a => by simp
 | x :: l, a => by
  rw [List.foldl_cons, Qlf c f l]
  by_cases h : c x = true
  ·
   rw [if_pos h, Nat.le_min]
   simp only [List.mem_cons]
   constructor
   ·
    rintro ⟨⟨h1, h2⟩, h3⟩
    refine ⟨h1, fun i hi hc => ?_⟩
    rcases hi with rfl | hi
    ·
     exact h2
    ·
     exact h3 i hi hc
   ·
    rintro ⟨h1, h2⟩
    exact ⟨⟨h1, h2 x (.inl rfl) h⟩, fun i hi hc => h2 i (.inr hi) hc⟩
  ·
   rw [if_neg h]
   simp only [List.mem_cons]
   constructor
   ·
    rintro ⟨h1, h2⟩
    refine ⟨h1, fun i hi hc => ?_⟩
    rcases hi with rfl | hi
    ·
     exact absurd hc h
    ·
     exact h2 i hi hc
   ·
    rintro ⟨h1, h2⟩
    exact ⟨h1, fun i hi hc => h2 i (.inr hi) hc⟩
theorem Qo4 {p y : List Nat} (g : Good p) {e m : Nat} : lowN p y e ≤ m ↔ ∀ j, (less p e).testBit j = true → y.getD j 0 ≤ m := by
 unfold lowN; rw [Qle]
 constructor
 ·
  rintro ⟨_, h⟩ j hb; exact h j (by have := g.bit hb; omega) hb
 ·
  intro h; exact ⟨by omega, fun j _ hb => h j hb⟩
theorem Qkx {p y : List Nat} (g : Good p) {b e m : Nat} : m ≤ Qj4 p y b e ↔ (m ≤ b ∧ ∀ i, (less p i).testBit e = true → m ≤ y.getD i 0) := by
 unfold Qj4; rw [Qlf (fun i => (less p i).testBit e)]
 constructor
 ·
  rintro ⟨h1, h⟩; exact ⟨h1, fun i hb => h i (by have := g.bit hb; simp; omega) hb⟩
 ·
  rintro ⟨h1, h⟩; exact ⟨h1, fun i _ hb => h i hb⟩
theorem low_le {p y : List Nat} {b : Nat} (g : Good p) (a : Arr p y b) (e : Nat) : lowN p y e ≤ y.getD e 0 := (Qo4 g).mpr fun j hb => a.up e j hb
theorem le_high {p y : List Nat} {b : Nat} (g : Good p) (a : Arr p y b) (e : Nat) : y.getD e 0 ≤ Qj4 p y b e := (Qkx g).mpr ⟨a.hi e, fun i hb => a.up i e hb⟩
theorem Qp9 {p y : List Nat} (g : Good p) (b e : Nat) : Qj4 p y b e ≤ b := ((Qkx g).mp (Nat.le_refl _)).1
def tgN (p : List Nat) (b : Nat) (y : List Nat) (e : Nat) : List Nat := y.set e (lowN p y e + Qj4 p y b e - y.getD e 0)
theorem getD_set (y : List Nat) (e v i : Nat) : (y.set e v).getD i 0 = if i = e ∧ e < y.length then v else y.getD i 0 := by
 simp only [List.getD_eq_getElem?_getD, List.getElem?_set]
 by_cases h : e = i
 ·
  subst h
  by_cases h2 : e < y.length
  ·
   simp [h2]
  ·
   simp [h2]
 ·
  simp [h, Ne.symm h]
theorem tgN_len (p : List Nat) (b : Nat) (y : List Nat) (e : Nat) : (tgN p b y e).length = y.length := by simp [tgN]
theorem Qmh (p : List Nat) (b : Nat) (y : List Nat) (e i : Nat) : (tgN p b y e).getD i 0 = if i = e ∧ e < y.length then lowN p y e + Qj4 p y b e - y.getD e 0 else y.getD i 0 := getD_set ..
theorem Arr.tg {p y : List Nat} {b : Nat} (g : Good p) (a : Arr p y b) (e : Nat) : Arr p (tgN p b y e) b := by
 have h1 := low_le g a e
 have h2 := le_high g a e
 have h3 := Qp9 (y := y) g b e
 refine ⟨by rw [tgN_len]; exact a.len, fun i => ?_, fun i j hb => ?_⟩
 ·
  rw [Qmh]; split
  ·
   omega
  ·
   exact a.hi i
 ·
  have hj := g.bit hb
  have hu := a.up i j hb
  rw [Qmh, Qmh]
  by_cases c1 : j = e ∧ e < y.length
  ·
   rw [if_pos c1, if_neg (by omega)]
   have := ((Qkx (y := y) (b := b) g (e := e)).mp (Nat.le_refl _)).2 i (by rw [← c1.1]; exact hb)
   omega
  ·
   rw [if_neg c1]
   by_cases c2 : i = e ∧ e < y.length
   ·
    rw [if_pos c2]
    have := (Qo4 (y := y) g (e := e)).mp (Nat.le_refl _) j (by rw [← c2.1]; exact hb)
    omega
   ·
    rw [if_neg c2]; exact hu
theorem Arr.fold {p : List Nat} {b : Nat} (g : Good p) : ∀ (w y : List Nat), Arr p y b → Arr p (w.foldl (tgN p b) y) b
 | [], _, a => a
 | e :: w, y, a => Arr.fold g w _ (a.tg g e)
def rowN (p : List Nat) (b : Nat) (y : List Nat) : List Nat := (List.range p.length).reverse.foldl (tgN p b) y
def backN (p : List Nat) (b : Nat) (y : List Nat) : List Nat := (List.range p.length).foldl (tgN p b) y
theorem Arr.row {p y : List Nat} {b : Nat} (g : Good p) (a : Arr p y b) : Arr p (rowN p b y) b := Arr.fold g _ _ a
theorem Arr.back {p y : List Nat} {b : Nat} (g : Good p) (a : Arr p y b) : Arr p (backN p b y) b := Arr.fold g _ _ a
theorem Qh8 (c : Nat → Bool) (i : Nat) : ∀ n, ((List.range n).foldl (fun o j => if c j = true then o ||| 2 ^ j else o) 0).testBit i = (decide (i < n) && c i)
 | 0 => by simp
 | n + 1 => by
  rw [List.range_succ, List.foldl_append, List.foldl_cons, List.foldl_nil]
  by_cases h : c n = true
  ·
   rw [if_pos h, Nat.testBit_or, Qh8 c i n, Nat.testBit_two_pow]
   by_cases e : n = i
   ·
    subst e; simp [h]
   ·
    rw [decide_eq_false e, Bool.or_false, decide_eq_decide.mpr (show i < n ↔ i < n + 1 by omega)]
  ·
   rw [if_neg h, Qh8 c i n]
   by_cases e : n = i
   ·
    subst e; simp [Bool.eq_false_iff.mpr h]
   ·
    rw [decide_eq_decide.mpr (show i < n ↔ i < n + 1 by omega)]
def Qg8 (p : List Nat) (i : Nat) : Nat := (List.range i).foldl (fun o j => if (less p (p.length - 1 - j)).testBit (p.length - 1 - i) = true then o ||| 2 ^ j else o) 0
def Qgd (p : List Nat) : List Nat := (List.range p.length).map (Qg8 p)
theorem Qfp (p : List Nat) : (Qgd p).length = p.length := by simp [Qgd]
theorem Qpn (p : List Nat) {i : Nat} (h : i < p.length) : less (Qgd p) i = Qg8 p i := by
 unfold less Qgd; rw [List.getD_eq_getElem?_getD]; simp [h]
theorem Qfb {p : List Nat} (g : Good p) (i j : Nat) : (less (Qgd p) i).testBit j = true ↔ i < p.length ∧ j < p.length ∧ (less p (p.length - 1 - j)).testBit (p.length - 1 - i) = true := by
 by_cases h : i < p.length
 ·
  rw [Qpn p h]
  unfold Qg8
  rw [Qh8 (fun j => (less p (p.length - 1 - j)).testBit (p.length - 1 - i)), Bool.and_eq_true, decide_eq_true_eq]
  refine ⟨fun e => ⟨h, by omega, e.2⟩, fun e => ⟨?_, e.2.2⟩⟩
  have := g.bit e.2.2
  omega
 ·
  rw [Qky (by rw [Qfp]; omega)]
  simp [h]
theorem Qlb {p : List Nat} (g : Good p) : Good (Qgd p) where
 pos := by rw [Qfp]; exact g.pos
 le := by rw [Qfp]; exact g.le
 lt := fun i hi => by
  rw [Qfp] at hi
  refine Nat.lt_pow_two_of_testBit _ fun j hj => Bool.eq_false_iff.mpr fun e => ?_
  have h := (Qfb g i j).mp e
  have := g.bit h.2.2
  omega
 tr := fun i hi j h1 m h2 => by
  have a := (Qfb g i j).mp h1
  have b := (Qfb g j m).mp h2
  exact (Qfb g i m).mpr ⟨a.1, b.2.1, g.tr' b.2.2 a.2.2⟩
theorem Qp3 {p : List Nat} (g : Good p) {a e : Nat} (ha : a < p.length) (he : e < p.length) : (less (Qgd p) (p.length - 1 - e)).testBit (p.length - 1 - a) = true ↔ (less p a).testBit e = true := by
 rw [Qfb g, show p.length - 1 - (p.length - 1 - a) = a by omega, show p.length - 1 - (p.length - 1 - e) = e by omega]
 exact ⟨fun h => h.2.2, fun h => ⟨by omega, by omega, h⟩⟩
theorem Qmp (s n i : Nat) : ∀ d, d ≤ n → (((List.range' 0 d).foldl (fun o i => if s.testBit i = true then o else o ||| 2 ^ (n - 1 - i)) 0).testBit i = true ↔ i < n ∧ n - 1 - i < d ∧ s.testBit (n - 1 - i) = false)
 | 0, _ => by simp
 | d + 1, h => by
  rw [List.range'_1_concat, List.foldl_append, List.foldl_cons, List.foldl_nil, Nat.zero_add]
  have ih := Qmp s n i d (by omega)
  by_cases c : s.testBit d = true
  ·
   rw [if_pos c, ih]
   refine and_congr_right fun hi => ⟨fun e => ⟨by omega, e.2⟩, fun e => ⟨?_, e.2⟩⟩
   refine Classical.byContradiction fun hn => ?_
   have : n - 1 - i = d := by omega
   rw [this, c] at e; exact absurd e.2 (by simp)
  ·
   rw [if_neg c, Nat.testBit_or, Bool.or_eq_true, ih, Nat.testBit_two_pow, decide_eq_true_eq]
   constructor
   ·
    rintro (e | e)
    ·
     exact ⟨e.1, by omega, e.2.2⟩
    ·
     refine ⟨by omega, by omega, ?_⟩
     rw [show n - 1 - i = d by omega]; exact Bool.eq_false_iff.mpr c
   ·
    intro e
    by_cases q : n - 1 - i = d
    ·
     exact .inr (by omega)
    ·
     exact .inl ⟨e.1, by omega, e.2.2⟩
theorem Qe4 (p : List Nat) (s i : Nat) : (Qfj p s).testBit i = true ↔ i < p.length ∧ s.testBit (p.length - 1 - i) = false := by
 unfold Qfj
 rw [Qmp s p.length i p.length (Nat.le_refl _)]
 exact ⟨fun h => ⟨h.1, h.2.2⟩, fun h => ⟨h.1, by omega, h.2⟩⟩
theorem dualN_lt (p : List Nat) (s : Nat) : Qfj p s < 2 ^ p.length :=
 Nat.lt_pow_two_of_testBit _ fun i hi => Bool.eq_false_iff.mpr fun e => by have := (Qe4 p s i).mp e; omega
theorem Qo1 {a b : Nat} (h : ∀ i, a.testBit i = true ↔ b.testBit i = true) : a = b := Nat.eq_of_testBit_eq fun i => Bool.eq_iff_iff.mpr (h i)
theorem Qnp {p : List Nat} (g : Good p) {s : Nat} (hs : IsId p s) : IsId (Qgd p) (Qfj p s) := by
 refine ⟨by rw [Qfp]; exact dualN_lt p s, fun e he i hi => ?_⟩
 have a := (Qe4 p s e).mp he
 have b := (Qfb g e i).mp hi
 refine (Qe4 p s i).mpr ⟨b.2.1, Bool.eq_false_iff.mpr fun c => ?_⟩
 have := hs.2 _ c _ b.2.2
 rw [this] at a; exact absurd a.2 (by simp)
theorem Qon {p : List Nat} {s : Nat} (hs : s < 2 ^ p.length) : Qfj (Qgd p) (Qfj p s) = s := by
 refine Qo1 fun i => ?_
 rw [Qe4, Qfp]
 constructor
 ·
  rintro ⟨hi, h⟩
  refine Classical.byContradiction fun c => ?_
  have := (Qe4 p s (p.length - 1 - i)).mpr ⟨by omega, by rw [show p.length - 1 - (p.length - 1 - i) = i by omega]; exact Bool.eq_false_iff.mpr c⟩
  rw [this] at h; exact absurd h (by simp)
 ·
  intro h
  have hi := Qff hs h
  refine ⟨hi, Bool.eq_false_iff.mpr fun c => ?_⟩
  have := (Qe4 p s _).mp c
  rw [show p.length - 1 - (p.length - 1 - i) = i by omega, h] at this
  exact absurd this.2 (by simp)
theorem Qoj {p : List Nat} (g : Good p) {s : Nat} (hs : IsId p s) (e : Nat) : (top p s).testBit e = true ↔ s.testBit e = true ∧ ∀ j, j < p.length → (less p j).testBit e = true → s.testBit j = false := by
 rw [Qi0 hs.1]
 refine and_congr_right fun he => ⟨fun h j hj hl => Bool.eq_false_iff.mpr fun c => ?_, fun h j hj => Bool.eq_false_iff.mpr fun c => ?_⟩
 ·
  have := h j c; rw [hl] at this; exact absurd this (by simp)
 ·
  have := h j (Qff hs.1 hj) c; rw [hj] at this; exact absurd this (by simp)
theorem row_dual {p : List Nat} (g : Good p) {s : Nat} (hs : IsId p s) : row (Qgd p) (Qfj p s) = Qfj p (back p s) := by
 have gd := Qlb g
 refine Qo1 fun i => ?_
 rw [Qhm gd (Qnp g hs), Qe4]
 constructor
 ·
  rintro ⟨e, he, h1, h2, h3⟩
  rw [Qfp] at he
  have t : (top p s).testBit (p.length - 1 - e) = true := by
   rw [Qoj g hs]
   refine ⟨Classical.byContradiction fun c => ?_, fun j hj hl => ?_⟩
   ·
    have := (Qe4 p s e).mpr ⟨he, Bool.eq_false_iff.mpr c⟩
    rw [h1] at this; exact absurd this (by simp)
   ·
    have := (Qp3 g hj (show p.length - 1 - e < p.length by omega)).mpr hl
    rw [show p.length - 1 - (p.length - 1 - e) = e by omega] at this
    have := ((Qe4 p s _).mp (h2 _ this)).2
    rwa [show p.length - 1 - (p.length - 1 - j) = j by omega] at this
  have hi : i < p.length := by
   rcases h3 with rfl | h3
   ·
    exact he
   ·
    exact ((Qfb g e i).mp h3).2.1
  refine ⟨hi, Bool.eq_false_iff.mpr fun c => ?_⟩
  have b := (Qhn s _).mp c
  rcases h3 with rfl | h3
  ·
   rw [t] at b; exact absurd b.2.1 (by simp)
  ·
   have := b.2.2 _ ((Qfb g e i).mp h3).2.2
   rw [t] at this; exact absurd this (by simp)
 ·
  rintro ⟨hi, h⟩
  have key : ∃ e, e < p.length ∧ (top p s).testBit e = true ∧ (e = p.length - 1 - i ∨ (less p (p.length - 1 - i)).testBit e = true) := by
   refine Classical.byContradiction fun c => ?_
   have : (back p s).testBit (p.length - 1 - i) = true := by
    refine (Qhn s _).mpr ⟨by omega, Bool.eq_false_iff.mpr fun e => c ⟨_, by omega, e, .inl rfl⟩, fun j hj => Bool.eq_false_iff.mpr fun e => c ⟨j, ?_, e, .inr hj⟩⟩
    have := g.bit hj; omega
   rw [h] at this; exact absurd this (by simp)
  obtain ⟨e, he, ht, hc⟩ := key
  have t := (Qoj g hs e).mp ht
  refine ⟨p.length - 1 - e, by rw [Qfp]; omega, Bool.eq_false_iff.mpr fun c => ?_, fun j hj => ?_, ?_⟩
  ·
   have := ((Qe4 p s _).mp c).2
   rw [show p.length - 1 - (p.length - 1 - e) = e by omega, t.1] at this; exact absurd this (by simp)
  ·
   have b := (Qfb g _ _).mp hj
   rw [show p.length - 1 - (p.length - 1 - e) = e by omega] at b
   exact (Qe4 p s j).mpr ⟨b.2.1, t.2 _ (by omega) b.2.2⟩
  ·
   rcases hc with hc | hc
   ·
    exact .inl (by omega)
   ·
    refine .inr ((Qfb g _ _).mpr ⟨by omega, hi, ?_⟩)
    rw [show p.length - 1 - (p.length - 1 - e) = e by omega]; exact hc
def Qgr (p : List Nat) (i j : Nat) : Nat := (List.range j).foldl (fun o j => if (less p (p.length - 1 - j)).testBit (p.length - 1 - i) = true then o ||| 2 ^ j else o) 0
theorem Qp4 (p : List Nat) (i j : Nat) : Qgr p i j < 2 ^ j := Nat.lt_pow_two_of_testBit _ fun b hb => by
 unfold Qgr; rw [Qh8 (fun j => (less p (p.length - 1 - j)).testBit (p.length - 1 - i)), decide_eq_false (by omega), Bool.false_and]
def Qew (p : List Nat) (i j : Nat) : List Nat := (List.range i).map (Qg8 p) ++ Qgr p i j :: List.replicate (p.length - (i + 1)) 0
theorem dual_p {p : List Nat} (g : Good p) {i j : Nat} (hi : i < p.length) (hj : j < p.length) : (Qb1.inst (toI p)).p (j : Int) (i : Int) = some ((less p (p.length - 1 - j)).testBit (p.length - 1 - i)) := by
 have hp := g.le
 show (if 0 ≤ wrap64 (wrap64 (((toI p).length : Int) - 1) - (j : Int)) ∧ wrap64 (wrap64 (((toI p).length : Int) - 1) - (j : Int)) < ((toI p).length : Int) then Qel.f (rd (toI p) (wrap64 (wrap64 (((toI p).length : Int) - 1) - (j : Int)))) (wrap64 (wrap64 (((toI p).length : Int) - 1) - (i : Int))) else none) = _
 have e : ∀ q : Nat, q < p.length → wrap64 (wrap64 (((toI p).length : Int) - 1) - (q : Int)) = ((p.length - 1 - q : Nat) : Int) := fun q hq => by
  rw [toI_len, Qdg (x := (p.length : Int) - 1) (by omega) (by omega), Qdg (by omega) (by omega)]; omega
 rw [e j hj, e i hi, if_pos (by rw [toI_len]; omega), Qe0]
 exact Qnu (g.lt63 _) (by omega)
theorem Qo6 {p : List Nat} (g : Good p) (i : Nat) (hi : i < p.length) (r : List Int) (c : Ev (fun k => @Qb5.l0 (Qb1.inst (toI p)) k (p.length : Int) ((i + 1 : Nat) : Int) (toI (Qew p i i))) r) : ∀ (d j : Nat), j + d = i →
  Ev (fun k => @Qb5.l1 (Qb1.inst (toI p)) k (i : Int) (p.length : Int) (i : Int) (i : Int) (j : Int) (toI (Qew p i j))) r
 | 0, j, h => by
  have hp := g.le
  refine Ev.step (fun _ => @Qb5.l1.eq_2 (Qb1.inst (toI p)) ..) (Qbj (by omega) ?_)
  rw [Qbz (by omega)]
  have : j = i := by omega
  subst this
  exact c
 | d + 1, j, h => by
  have hp := g.le
  have ih := Qo6 g i hi r c d (j + 1) (by omega)
  have hl : (toI (Qew p i j)).length = p.length := by rw [toI_len]; simp [Qew]; omega
  have eT : Qgr p i (j + 1) = if (less p (p.length - 1 - j)).testBit (p.length - 1 - i) = true then Qgr p i j ||| 2 ^ j else Qgr p i j := by
   unfold Qgr; rw [List.range_succ, List.foldl_append, List.foldl_cons, List.foldl_nil]
  refine Ev.step (fun _ => @Qb5.l1.eq_2 (Qb1.inst (toI p)) ..) (Qh (by omega) (Qbv (dual_p g hi (by omega)) (Qc7 (fun e => ?_) (fun e => ?_))))
  ·
   refine Qh (by omega) (Qh (by omega) (Qh (by omega) ?_))
   have hm := lt63 (Qp4 p i j) (by omega)
   have er : rd (toI (Qew p i j)) (i : Int) = ((Qgr p i j : Nat) : Int) := by
    rw [Qec]; unfold Qew
    rw [List.getD_eq_getElem?_getD, List.getElem?_append_right (by simp)]; simp
   rw [er, Qfi (by omega), Qgb hm (Nat.lt_of_lt_of_le (Nat.pow_lt_pow_right (by omega) (show j < 63 by omega)) (Nat.le_refl _)), Qbz (by omega), Int.toNat_natCast, Qiy]
   have es : (Qew p i j).set i (Qgr p i j ||| 2 ^ j) = Qew p i (j + 1) := by
    unfold Qew
    rw [List.set_append_right _ _ (by simp), eT, if_pos e]; simp
   rw [es]; exact ih
  ·
   rw [Qbz (by omega)]
   have es : Qew p i j = Qew p i (j + 1) := by unfold Qew; rw [eT, if_neg e]
   rw [es]; exact ih
theorem Qo5 {p : List Nat} (g : Good p) : ∀ (d i : Nat), i + d = p.length → Ev (fun k => @Qb5.l0 (Qb1.inst (toI p)) k (p.length : Int) (i : Int) (toI ((List.range i).map (Qg8 p) ++ List.replicate (p.length - i) 0))) (toI (Qgd p))
 | 0, i, h => by
  refine Ev.step (fun _ => @Qb5.l0.eq_2 (Qb1.inst (toI p)) ..) (Qbj (by omega) ?_)
  have : i = p.length := by omega
  subst this
  rw [Nat.sub_self, List.replicate_zero, List.append_nil]
  exact Ev.now _
 | d + 1, i, h => by
  have ih := Qo5 g d (i + 1) (by omega)
  refine Ev.step (fun _ => @Qb5.l0.eq_2 (Qb1.inst (toI p)) ..) (Qh (by omega) ?_)
  have es : (List.range i).map (Qg8 p) ++ List.replicate (p.length - i) 0 = Qew p i 0 := by
   unfold Qew
   rw [show p.length - i = (p.length - (i + 1)) + 1 by omega, List.replicate_succ]; rfl
  have en : (List.range (i + 1)).map (Qg8 p) ++ List.replicate (p.length - (i + 1)) 0 = Qew p i i := by
   unfold Qew
   rw [List.range_succ, List.map_append, List.append_assoc]; rfl
  rw [es]
  rw [en] at ih
  exact Qo6 g i (by omega) _ ih i 0 (Nat.zero_add _)
theorem dual_ev {p : List Nat} (g : Good p) : Ev (fun k => Qb1.f k (toI p)) (toI (Qgd p)) := by
 have hp := g.le
 have h := Qo5 g p.length 0 (by omega)
 show Ev (fun k => @Qb5.f (Qb1.inst (toI p)) k ((toI p).length : Int) 0) _
 rw [toI_len]
 refine Qh (by omega) (Qh (by omega) ?_)
 rw [Int.toNat_natCast, show List.replicate p.length (0 : Int) = toI ((List.range 0).map (Qg8 p) ++ List.replicate (p.length - 0) 0) by simp [toI]]
 exact h
theorem Qp2 {p : List Nat} (g : Good p) : Ev (fun k => Qej.f k (toI p)) (toI (Qgd p), true) :=
 Ev.bind (Qi2 _) (Qh (Qh4 g) (Ev.bind (dual_ev g) (Ev.now _)))
section
variable {p : List Nat} (g : Good p) {s : Nat} (hs : IsId p s)
include g hs
theorem Qnr : Ev (fun k => Qdn.f k (toI p) (s : Int)) (((Qfj p s : Nat) : Int), true) :=
 Ev.bind (Qge _ _) (Qh (Qln g hs) (Ev.bind (Qjj g hs.1) (Ev.now _)))
theorem Qpp : Ev (fun k => Qek.f k (toI p) (s : Int)) true := by
 have h : Ev (fun k => Qd5.f k (toI p) (s : Int)) (true, true) := by
  refine Ev.bind (Qnz _ _) (Qh (Qpb g hs.1) (Ev.bind (Qhq g hs.1) ?_))
  rw [(Qhp hs.1).mpr hs, beq_self_eq_true]
  exact Ev.now _
 exact Ev.bind h (Qh rfl (Ev.now _))
end
theorem full_id {p : List Nat} (g : Good p) : IsId p (full p) := ⟨Qio p, fun e _ i hi => by
 rw [Qku, decide_eq_true_eq]
 have := g.bit hi; omega⟩
theorem Qog {c : List Int} (hd : Draw2 (fun k => Qdh.f k c)) (R : List Int) (L : List Nat) (hL : L.length ≤ 2000) (hs : L.Pairwise (· < ·)) (hv : ∀ v ∈ L, Ev (fun k => Qbs.f k R (v : Int)) ((v : Int), true)) : ∀ (d i : Nat), i + d = L.length →
  Ev (fun k => laws_FnRowvacuation.l0 k c (toI L) (toI L) ((toI L).length : Int) (i : Int) R) true
 | 0, i, h => by
  refine Ev.step (fun _ => laws_FnRowvacuation.l0.eq_2 ..) (Qbj (by rw [toI_len]; omega) ?_)
  obtain ⟨y, w, hy, e⟩ := hd
  by_cases hi : idB y w = true
  ·
   obtain ⟨p, t, rfl, rfl, g, ht⟩ := idB_of hi
   have a1 : Ev (fun k => Qdx.f k (toI p) (t : Int)) (((Qfj p t : Nat) : Int), true) := Ev.bind (Qkc _ _) (Qh hi ((Qm3 g t).bind (Ev.now _)))
   have a2 : Ev (fun k => Qdv.f k (toI p) (t : Int)) (((Qfj p (back p t) : Nat) : Int), true) := Ev.bind (Qge _ _) (Qh hi (Ev.bind (Qoq g ht) (Ev.bind (Qjj g (Qox t)) (Ev.now _))))
   have a3 : Ev (fun k => Qdy.f k (toI p) (t : Int)) (((Qfj p (back p t) : Nat) : Int), true) := Ev.bind (Qkc _ _) (Qh hi (Ev.bind (Qql g ht.1) (Ev.bind (Qm3 g _) (Ev.now _))))
   refine Ev.bind e (Ev.bind (Qnr g ht) (Ev.bind a1 (Ev.bind a2 (Ev.bind a3 (Qbj (by simp) (Qh rfl (Qbj (by simp) (Qh rfl (Ev.step (fun _ => laws_FnRowvacuation.j6.eq_2 ..) (Qbj (by simp) (Qh rfl ?_)))))))))))
   have gd := Qlb g
   have hdu := Qnp g ht
   have b1 := Qnr gd hdu
   rw [Qon ht.1] at b1
   have b2 := Qi5 gd hdu
   rw [row_dual g ht] at b2
   exact Ev.bind (Qp2 g) (Ev.bind b1 (Ev.bind b2 (Qh rfl (Qh rfl (Qh rfl (Qh rfl (Qh rfl (Ev.bind (Qpp gd hdu) (Ev.now _)))))))))
  ·
   have a0 : Ev (fun k => Qdn.f k y w) (0, false) := Ev.bind (Qge _ _) (Qbj hi (Ev.now _))
   have a1 : Ev (fun k => Qdx.f k y w) (0, false) := Ev.bind (Qkc _ _) (Qbj hi (Ev.now _))
   have a2 : Ev (fun k => Qdv.f k y w) (0, false) := Ev.bind (Qge _ _) (Qbj hi (Ev.now _))
   have a3 : Ev (fun k => Qdy.f k y w) (0, false) := Ev.bind (Qkc _ _) (Qbj hi (Ev.now _))
   exact Ev.bind e (Ev.bind a0 (Ev.bind a1 (Ev.bind a2 (Ev.bind a3 (Qbj (by simp) (Qh rfl (Qbj (by simp) (Qh rfl (Ev.step (fun _ => laws_FnRowvacuation.j6.eq_2 ..) (Qbj (by simp) (Qbj (by simp) (Ev.now _))))))))))))
 | d + 1, i, h => by
  have ih := Qog hd R L hL hs hv d (i + 1) (by omega)
  have hi : i < L.length := by omega
  have er : ∀ j, (hj : j < L.length) → rd (toI L) (j : Int) = ((L[j] : Nat) : Int) := fun j hj => by rw [Qec]; simp [List.getD_eq_getElem?_getD, hj]
  refine Ev.step (fun _ => laws_FnRowvacuation.l0.eq_2 ..) (Qh (by rw [toI_len]; omega) (Qh (by omega) (Qh (by rw [toI_len]; omega) ?_)))
  rw [er i hi, Qbz (by omega)]
  refine Ev.bind (hv _ (List.getElem_mem hi)) (Qh rfl (Qh rfl (Qc7 (fun c0 => ?_) (fun _ => ih))))
  rw [show wrap64 ((i : Int) - 1) = ((i - 1 : Nat) : Int) by rw [Qdg (by omega) (by omega)]; omega]
  refine Qh (by omega) (Qh (by rw [toI_len]; omega) ?_)
  rw [er (i - 1) (by omega)]
  have := List.pairwise_iff_getElem.mp hs (i - 1) i (by omega) hi (by omega)
  exact Qbj (by omega) ih
theorem rvJ3 {c : List Int} (hc : Cu c 0 0) : Ev (fun k => laws_FnRowvacuation.j3 k c) true := by
 obtain ⟨R, hR, e⟩ := Qm9 hc
 obtain ⟨r, hr, e1, e2⟩ := Qgh R (by omega)
 refine Ev.step (fun _ => laws_FnRowvacuation.j3.eq_2 ..) (Ev.bind e (Ev.bind e2 (Ev.bind e1 (Qbj (by simp) (Ev.bind (Qlu _ (by omega)) (Ev.step (fun _ => laws_FnRowvacuation.j4.eq_2 ..) (Qbj (by simp) ?_)))))))
 have hd := Qm8 hc
 by_cases h : rgB R = true
 ·
  obtain ⟨p, rfl, g, hk⟩ := Qiu h
  have gh := Qd4 g
  have gl := Qkv g
  have er : r = (toI ((idls p).filter fun s => Qfd p s == s), true) := by
   have hv := Qgg (H := hgh p - 1) (by omega)
   have := Qgt g (idls p).length 0 [] (by omega) (Nat.le_refl 0)
   rw [List.drop_zero, List.nil_append] at this
   exact Qgs e1 (Ev.bind (Qe6 _) (Qh h (Ev.bind (Qfu g) (Ev.bind (Qkl g) this))))
  rw [er]
  have hfl := List.length_filter_le (fun s => Qfd p s == s) (idls p)
  refine Qog hd (toI p) _ (by omega) ?_ (fun v hv => ?_) _ 0 (Nat.zero_add _)
  ·
   unfold idls
   exact (List.pairwise_lt_range.filter _).filter _
  ·
   rw [List.mem_filter, beq_iff_eq] at hv
   have hid := Qkz.mp hv.1
   have := Qjx g hid hk
   rw [show rvac p v = v from hv.2] at this
   exact this
 ·
  have er : r = ([], false) := Qgs e1 (Ev.bind (Qe6 _) (Qbj h (Ev.now _)))
  rw [er]
  exact Qog hd R [] (by simp) List.Pairwise.nil (fun v hv => by cases hv) 0 0 rfl
theorem rvJ1 {c : List Int} (hc : Cu c 0 0) : Ev (fun k => laws_FnRowvacuation.j1 k c) true := by
 obtain ⟨R, hR, e⟩ := Qpm hc
 obtain ⟨r, hr, e1, e2⟩ := Qgv R (by omega)
 have ej := rvJ3 hc
 refine Ev.step (fun _ => laws_FnRowvacuation.j1.eq_2 ..) (Ev.bind e (Ev.bind e2 (Ev.bind e1 (Qbj (by simp) (Ev.bind (Qlu _ (by omega)) (Ev.step (fun _ => laws_FnRowvacuation.j2.eq_2 ..) (Qbj (by simp) ?_)))))))
 by_cases h : rgB R = true
 ·
  obtain ⟨p, rfl, g, hk⟩ := Qiu h
  have gh := Qd4 g
  have gl := g.le
  have hv := Qgg (H := hgh p - 1) (by omega)
  by_cases hcc : ((toI (vac (hgh p - 1))).length : Int) > 40
  ·
   have er : r = ([], false) := Qgs e1 (Ev.bind (Qe6 _) (Qh h (Ev.bind (Qfu g) (Qh hcc (Ev.now _)))))
   rw [er]
   exact Qbj (by simp) ej
  ·
   have er : r = (toI (vac (hgh p - 1)), true) := Qgs e1 (Ev.bind (Qe6 _) (Qh h (Ev.bind (Qfu g) (Qbj hcc (Ev.now _)))))
   rw [er]
   have hf := full_id g
   have e0 : wrap64 ((shl .i64 1 ((toI p).length : Int)) - 1) = ((full p : Nat) : Int) := by rw [toI_len]; exact Qhw (by omega)
   obtain ⟨q, _, q2, _, q4⟩ := TRs_ev (toI p) ((full p : Nat) : Int) (toI (vac (hgh p - 1))) (by omega)
   have hq := (q4 p (full p) rfl rfl g hf hk (by omega)).2 (by
    rw [List.all_eq_true]
    intro x hx
    obtain ⟨y, hy, rfl⟩ := List.mem_map.mp hx
    have := Qh0 g y hy
    rw [Qex]; omega)
   rw [Qfc] at hq
   rw [hq] at q2
   dsimp only
   rw [e0]
   exact Qh rfl (Ev.bind q2 (Ev.bind (Qjx g hf hk) (Qh rfl (Qh rfl (Qh rfl ej)))))
 ·
  have er : r = ([], false) := Qgs e1 (Ev.bind (Qe6 _) (Qbj h (Ev.now _)))
  rw [er]
  exact Qbj (by simp) ej
theorem pFnRowvacuation : laws_FnRowvacuation.Pure := by
 intro l0 l1 h1 h2 hb h3 h4 hb1
 refine Ev.rounds ?_
 obtain ⟨v, hv, hl⟩ := big_eq l0 l1
 cases v with
 | true => exact Qbv hv (Qh rfl (Ev.now _))
 | false =>
  have hl := hl rfl
  have c0 := Qno hl.1 hb
  have c1 := Qno hl.2 hb1
  have ej := rvJ1 c1
  obtain ⟨R, w, hR, e⟩ := Qkt c0
  obtain ⟨r, r1, r2⟩ := Qhe R w (by omega)
  obtain ⟨q, q1, q2⟩ := Qgu R w (by omega)
  refine Qbv hv (Qbj (by simp) (Ev.bind e (Ev.bind r2 (Ev.bind r1 (Ev.bind q2 (Ev.bind q1 (Qbj (by simp) (Qh rfl (Qbj (by simp) (Qh rfl (Ev.step (fun _ => laws_FnRowvacuation.j0.eq_2 ..) ?_)))))))))))
  by_cases h : rvB R w = true
  ·
   obtain ⟨p, t, rfl, rfl, g, ht, hr⟩ := Qly h
   have gh := Qd4 g
   have er := Qgs r2 (Qjx g ht hr)
   have eq := Qgs q2 (Qlc g ht hr)
   rw [er, eq]
   have hi := Qiv g ht
   have a1 := Qjx g (Qj9 g hr ht) hr
   rw [Qqi g hr ht] at a1
   have a2 := Qlc g (Ql9 g hr ht) hr
   rw [Qp5 g hr ht] at a2
   have a3 := Qi5 g ht
   have a4 := Qjx g hi hr
   have a5 := Qi5 g (Qj9 g hr hi)
   rw [row_rvac g hr ht] at a5
   have a6 := Qlc g hi hr
   have a7 := Qi5 g (Ql9 g hr hi)
   rw [row_dvac g hr ht] at a7
   have a8 : Ev (fun k => Qeb.f k (toI p)) (toI (Qg6 p), true) := Ev.bind (Qfl _) (Qh (Qof g hr) (Ev.bind (Qf5 g) (Ev.now _)))
   have a9 := Qlc g (Qj9 g hr ht) hr
   rw [both_vac g hr ht] at a9
   have a10 := Qm6 g ht (n := hgh p + 1) (by omega)
   have el : wrap64 (((toI (Qg6 p)).length : Int) + 1) = ((hgh p + 1 : Nat) : Int) := by rw [toI_len, Qf8, Qbz (by omega)]
   rw [← el] at a10
   refine Qbj (by simp) (Qh rfl (Ev.bind a1 (Ev.bind a2 (Ev.bind a3 (Ev.bind a4 (Ev.bind a5 (Ev.bind a6 (Ev.bind a7 (Ev.bind a8 (Ev.bind a9 (Ev.bind a10 ?_)))))))))))
   exact Qh rfl (Qh rfl (Qh rfl (Qh rfl (Qh rfl (Qh rfl (Qh rfl (Qh rfl (Qh rfl (Qh rfl (Qh rfl (Qh rfl (Qh rfl (Qh rfl (Qh rfl ej))))))))))))))
  ·
   have er : r = (0, false) := Qgs r2 (Ev.bind (Qdr _ _) (Qbj h (Ev.now _)))
   have eq : q = (0, false) := Qgs q2 (Ev.bind (Qdr _ _) (Qbj h (Ev.now _)))
   rw [er, eq]
   exact Qbj (by simp) (Qbj (by simp) ej)
end Go.Proofs.YtkgngggppcmpfaaGreat.M
namespace Go.Proofs.YtkgngggppcmpfaaGreat.Pure
open Go.Proofs.YtkgngggppcmpfaaGreat.L
theorem FnRowvacuation : laws_FnRowvacuation.Pure := Go.Proofs.YtkgngggppcmpfaaGreat.M.pFnRowvacuation
end Go.Proofs.YtkgngggppcmpfaaGreat.Pure
end
