/- Laws about the given program: the law FnArrayOrbits answers true for every input that its row lets in; no condition is added to the given statement. Contracts of the Go functions that it reaches, and the plain proof over lists. -/
import Derived.Test.YtkgngggppcmpfaaWFnArrayOrbits0
import Derived.Test.YtkgngggppcmpfaaKFnArrayOrbits0
import Derived.Test.YtkgngggppcmpfaaKFnArrayOrbits1
import Derived.Test.YtkgngggppcmpfaaKFnArrayOrbits2
import Derived.Test.YtkgngggppcmpfaaKFnArrayOrbits3
import Derived.Test.YtkgngggppcmpfaaKFnArrayOrbits4
section
namespace Go.Proofs.Ytkgngggppcmpfaa.L
open Go.RowKit Go.Proofs.YtkgngggppcmpfaaW.PrintWords Go.Proofs.YtkgngggppcmpfaaW.PrintLast Go.Proofs.YtkgngggppcmpfaaW.PrintMore
attribute [local go_sem] Qbj Qbi Qbu Qbt Qbd Qbc Qbk Qbl
set_option linter.unusedVariables false
set_option linter.unusedSimpArgs false
def Qy.l0 : Nat → List Int → Int → Int → Option (List Int)
 |0,_,_,_=>none
 |k+1,x0,x2,x3=>if x2<x3 then (if 0≤x3 then (if x3<(x0.length:Int) then (if 0≤x2 then (if x2<(x0.length:Int) then (Qy.l0 k ((x0.set (x2:Int).toNat (rd x0 x3)).set (x3:Int).toNat (rd x0 x2)) (wrap64 (x2+1)) (wrap64 (x3 - 1))) else (none)) else (none)) else (none)) else (none)) else (some x0)
def Qy.f (k : Nat) (l0 : List Int) : Option (List Int) := Qy.l0 k l0 0 (wrap64 ((l0.length : Int) - 1))
theorem Qy.mono_l : ∀ k, (∀ y0 y1 y2, LeO (Qy.l0 k y0 y1 y2) (Qy.l0 (k + 1) y0 y1 y2))
 |0=>fun _ _ _ r h=>by simp [Qy.l0] at h
 |k+1=>by
  have ih0:=Qy.mono_l k
  ·
   intro y0 y1 y2;unfold Qy.l0
   repeat' first
   |(with_reducible exact ih0 _ _ _)
   |(with_reducible exact LeO.refl _)
   |(with_reducible exact LeO.none _)
   |(with_reducible refine LeO.ite ?_ ?_)
   |(with_reducible refine LeO.bind ?_ (fun _=> ?_))
   |exact ih0 _ _ _
   |exact LeO.none _
   |refine LeO.ite ?_ ?_
   |refine LeO.bind ?_ (fun _=> ?_)
theorem Qy.mono : ∀ a0 k, LeO (Qy.f k a0) (Qy.f (k + 1) a0) := by
 intro a0 k;have ih0:=Qy.mono_l k;unfold Qy.f
 repeat' first
  |(with_reducible exact ih0 _ _ _)
  |(with_reducible exact LeO.refl _)
  |(with_reducible exact LeO.none _)
  |(with_reducible refine LeO.ite ?_ ?_)
  |(with_reducible refine LeO.bind ?_ (fun _=> ?_))
  |exact ih0 _ _ _
  |exact LeO.none _
  |refine LeO.ite ?_ ?_
  |refine LeO.bind ?_ (fun _=> ?_)
def Qy.T3 : Bool × List (List Nat × List Nat) := (true, [([], []), ([], []), ([], []), ([], []), ([], []), ([], []), ([4, 5], [4, 5]), ([6], [6]), ([], []), ([], []), ([8, 9], [8, 9]), ([10], [10]), ([0, 1, 0, 1, 4, 5, 6, 7, 11], [0, 1]), ([12, 7, 0, 1, 4, 5, 6, 7, 11], [7, 12]), ([2, 3, 0, 1, 2, 3, 4, 5, 6, 7, 8, 9, 10, 11, 12, 13], [2, 3]), ([14, 11, 13, 0, 1, 2, 3, 4, 5, 6, 7, 8, 9, 10, 11, 12, 13], [11, 14])])
def Qy.B3 : List Nat := [0, 0, 0, 0, 0, 0, 48, 112, 0, 0, 768, 1792, 4083, 8179, 16383, 32767]
theorem Qy.tab3 : rtab .any (opsOf Try.f93 3) = Qy.T3 := by kernel_rfl
theorem Qy.bits3 : Qei Qy.T3.2 Qy.B3 = true := by kernel_rfl
set_option maxHeartbeats 8000000 in
set_option maxRecDepth 100000 in
theorem Qy.calls (k : Nat) (P0_ : Nat → Prop) (u9000_ : Value) (l0 : List Int) (r : List Int) (w0 w : World) (hB : Below w0.heap.size w0 w) (ho0 : Kd.R (Kd.int .i64) 3 w w0.heap.size P0_ u9000_ l0) (h : Qy.f k l0 = some r) :
 Calls Try.prog 93 #[u9000_] w fun e w'=>e= .returned (.tuple #[])∧Kd.R (Kd.int .i64) 3 w' w0.heap.size (fun k_=>(P0_ k_∨w.heap.size≤k_)) u9000_ r∧Below w0.heap.size w0 w'∧Kept w w' (fun k_=>P0_ k_):=by
 have HO0:=Aside0.mk (show Kd.R (Kd.int .i64) 3 w w0.heap.size (fun k_=>(P0_ k_∨w.heap.size≤k_)) u9000_ l0 from Kd.R_mono ho0 (fun k_ hk=>(.inl hk)));have HK:=Aside0.mk (Kept.refl w (fun k_=>P0_ k_));have HW0:=Aside0.mk hB.size;have HB:=Aside0.mk hB;clear hB;have H:(Qy.l0 k l0 0 (wrap64 ((l0.length:Int) - 1)))=some r:=h;clear h;have H':=Aside0.mk H;clear H;obtain ⟨Ao2,co2,eo2⟩:=Kd.R_slice HO0.out;subst eo2;go_enter Try.func93,Try.ntmps93;go_wp2
 go_loopg [2,3] k (fun kq v2 v3 w'=> ∃ (x0_1:List Int) (x2_1:Int) (x3_1:Int),v2= .int .i64 x2_1∧v3= .int .i64 x3_1∧Aside0 (Qy.l0 kq x0_1 x2_1 x3_1=some r)∧Aside0 (kq≤k)∧Aside0 (Kd.R (Kd.int .i64) 3 w' w0.heap.size (fun k_=>(P0_ k_∨w.heap.size≤k_)) (.slice Ao2 l0.length co2) x0_1)∧Aside0 (Kept w w' (fun k_=>P0_ k_))∧Aside0 (Below w0.heap.size w0 w'))
 case atStart=>exact ⟨(l0),(0),(wrap64 ((l0.length:Int) - 1)),(by first|rfl|(simp;done)|(simp [*];done)),(by first|rfl|(simp;done)|(simp [*];done)),H',⟨Nat.le_refl _⟩,⟨by (with_reducible repeat (first|apply Kd.R_alloc|apply Kd.R_drewN|apply Kd.R_drew));exact HO0.out⟩,⟨by repeat (first|(with_reducible first|exact HK.out|apply Kept.alloc|apply Kept.drewN|apply Kept.drew)|exact HK.out)⟩,⟨by repeat (first|(with_reducible first|exact HB.out|apply Qc|apply Qa|apply Qd)|exact HB.out)⟩⟩
 case round=>
  clear H'
  try clear p2
  obtain ⟨x0_1,x2_1,x3_1,rfl,rfl,HA,HK1,HO_0,HK,HB⟩:=hrel;have hl0_1:=(Kd.R_reads' HO_0.out).1;rw [hl0_1] at HO_0
  (try simp only [hl0_1])
  cases gk with
  |zero=>exact absurd HA.out (by simp [Qy.l0])
  |succ k1=>
   have H:=HA.out;clear HA;simp only [Qy.l0] at H
   by_cases c3:x2_1<x3_1
   ·
    rw [if_pos c3] at H;have c3b0:decide (x2_1<x3_1)=true:=decide_eq_true c3;clear c3
    by_cases c4:0≤x3_1
    ·
     rw [if_pos c4] at H;have c4b0:decide (0≤x3_1)=true:=decide_eq_true c4;clear c4
     by_cases c5:x3_1<(x0_1.length:Int)
     ·
      rw [if_pos c5] at H;have c5b0:decide (x3_1<(x0_1.length:Int))=true:=decide_eq_true c5;clear c5
      by_cases c6:0≤x2_1
      ·
       rw [if_pos c6] at H;have c6b0:decide (0≤x2_1)=true:=decide_eq_true c6;clear c6
       by_cases c7:x2_1<(x0_1.length:Int)
       ·
        rw [if_pos c7] at H;have c7b0:decide (x2_1<(x0_1.length:Int))=true:=decide_eq_true c7;clear c7;obtain ⟨y366,hy366⟩: ∃ y_:List Int,y_=(x0_1.set (x2_1:Int).toNat (rd x0_1 x3_1)):=⟨_,rfl⟩
        replace H:(Qy.l0 k1 (y366.set (x3_1:Int).toNat (rd x0_1 x2_1)) (wrap64 (x2_1+1)) (wrap64 (x3_1 - 1)))=some r:=by first|(rw [hy366];with_reducible exact H)|(have H2_:=(Option.bind_some _ _).symm.trans H;rw [hy366];with_reducible exact H2_)|(have H2_:=(Option.bind_some _ _).symm.trans H;with_reducible exact H2_)|with_reducible exact H|(rw [hy366];exact H)|exact H
        have Ny366:=Aside0.mk hy366;clear hy366;obtain ⟨y367,hy367⟩: ∃ y_:List Int,y_=(y366.set (x3_1:Int).toNat (rd x0_1 x2_1)):=⟨_,rfl⟩
        replace H:(Qy.l0 k1 y367 (wrap64 (x2_1+1)) (wrap64 (x3_1 - 1)))=some r:=by first|(rw [hy367];with_reducible exact H)|(have H2_:=(Option.bind_some _ _).symm.trans H;rw [hy367];with_reducible exact H2_)|(have H2_:=(Option.bind_some _ _).symm.trans H;with_reducible exact H2_)|with_reducible exact H|(rw [hy367];exact H)|exact H
        have Ny367:=Aside0.mk hy367;clear hy367;have H':=Aside0.mk H;clear H
        try go_wp2
        replace HO_0:=Aside0.mk (Kd.R_drew HO_0.out);replace HK:=Aside0.mk (Kept.drew HK.out);replace HB:=Aside0.mk (Qd HB.out);have p364:0≤(x3_1:Int):=of_decide_eq_true (by first|(with_reducible assumption)|assumption);have q364:x3_1<(x0_1.length:Int):=of_decide_eq_true (by first|(with_reducible assumption)|assumption);obtain ⟨ad364,e364,hx364_0⟩:=Kd.at_int (Kd.R_reads' HO_0.out).2.2 x3_1 p364 q364;cases e364;replace p364:=eq_true p364;replace q364:=eq_true q364;have p365:0≤(x2_1:Int):=of_decide_eq_true (by first|(with_reducible assumption)|assumption);have q365:x2_1<(x0_1.length:Int):=of_decide_eq_true (by first|(with_reducible assumption)|assumption);obtain ⟨ad365,e365,hx365_0⟩:=Kd.at_int (Kd.R_reads' HO_0.out).2.2 x2_1 p365 q365;obtain rfl:ad364=ad365:=(by injection e365)
        replace p365:=eq_true p365;replace q365:=eq_true q365;have p8:0≤(x2_1:Int):=of_decide_eq_true (by first|(with_reducible assumption)|assumption);have q8:(x2_1:Int)<((x0_1.length:Int):Int):=of_decide_eq_true (by first|(with_reducible assumption)|assumption);obtain ⟨go8,co8,eo8,gb8,gl8,cl8,HG8⟩:=Kd.R_form HO_0.out (by omega)
        (first|cases eo8|(injection eo8 with ea_ en_ ec_;(first|subst ea_|(injection ea_ with ea_;subst ea_));subst ec_;clear en_))
        have GB8:=Aside0.mk gb8;have GG8:=Aside0.mk HG8;clear gb8 gl8 HG8;have HMgo8:=Aside0.mk (show (P0_ go8∨w.heap.size≤go8) from (HO_0.out.1 _ rfl))
        (first|simp only [Qd3] at hx364_0|skip)
        (first|simp only [Qd3] at hx365_0|skip)
        obtain ⟨hx8_0,hf8_0⟩:=Kd.R_celln 0 HO_0.out (x2_1:Int) p8 q8;replace p8:=eq_true p8;replace q8:=eq_true q8;have HP11:=Kd.R_putn HO_0.out (x2_1:Int) (rd x0_1 x3_1);rw [←Ny366.out] at HP11;have HQ11:=Aside0.mk HP11;clear HP11;have p9:0≤(x3_1:Int):=of_decide_eq_true (by first|(with_reducible assumption)|assumption);have q9:(x3_1:Int)<((x0_1.length:Int):Int):=of_decide_eq_true (by first|(with_reducible assumption)|assumption);obtain ⟨hx9_0,hf9_0⟩:=Kd.R_celln 0 HQ11.out (x3_1:Int) p9 q9;replace p9:=eq_true p9;replace q9:=eq_true q9;have HP12:=Kd.R_putn HQ11.out (x3_1:Int) (rd x0_1 x2_1);rw [←Ny367.out] at HP12;have HQ12:=Aside0.mk HP12;clear HP12;refine Qgy (n:=16) (S:=fun w'=>w'.cell? ⟨go8,(x3_1).toNat,none⟩=some (.int .i64 (rd x0_1 x3_1))∧w'.cell? ⟨go8,(x2_1).toNat,none⟩=some (.int .i64 (rd x0_1 x2_1))) (ds:= [13,15]) #[false,false,false,false,false,false,false,false,false,false,false,false,false,false,false,false] (by kernel_rfl) rfl rfl ⟨hx364_0,hx365_0⟩ (fun hHeld=> ?_);refine Qfr Qy.tab3 Qy.bits3 (fun HT_ HW_=> ?_);generalize wr.drew=w10 at HO_0 HK HB GG8 HQ11 HQ12 hf8_0 hf9_0 hx364_0 hx365_0 hx8_0 hx9_0 hHeld ⊢;refine Qc3 (i:=0) (N:=some 14) (v:= ?_) (a':= ?_) #[true,false,false,false,false,false,false,false,false,false,false,false,false,false,false,false] rfl rfl (Qcy HT_.out (by kernel_rfl)) (fun _ _ _ h=>h) (Or.inl ⟨by rfl,?_⟩) ?_ ?_;rotate_left
        ·
         intro w';go_simp
         with_reducible rfl
        rotate_left
        ·
         simp only [Act.put,List.setIfInBounds_toArray,List.set_cons_zero,List.set_cons_succ,Qcb,Qcj];rfl
        refine Qc3 (i:=1) (N:=some 15) (v:= ?_) (a':= ?_) #[true,true,false,false,false,false,false,false,false,false,false,false,false,false,false,false] rfl rfl (Qcy HT_.out (by kernel_rfl)) (fun _ _ _ h=>h) (Or.inl ⟨by rfl,?_⟩) ?_ ?_;rotate_left
        ·
         intro w';go_simp
         with_reducible rfl
        rotate_left
        ·
         simp only [Act.put,List.setIfInBounds_toArray,List.set_cons_zero,List.set_cons_succ,Qcb,Qcj];rfl
        refine Qc3 (i:=2) (N:=some 16) (v:= ?_) (a':= ?_) #[true,true,true,false,false,false,false,false,false,false,false,false,false,false,false,false] rfl rfl (Qcy HT_.out (by kernel_rfl)) (fun _ _ _ h=>h) (Or.inl ⟨by rfl,?_⟩) ?_ ?_;rotate_left
        ·
         intro w';go_simp
         with_reducible rfl
        rotate_left
        ·
         simp only [Act.put,List.setIfInBounds_toArray,List.set_cons_zero,List.set_cons_succ,Qcb,Qcj];rfl
        refine Qc3 (i:=3) (N:=some 17) (v:= ?_) (a':= ?_) #[true,true,true,true,false,false,false,false,false,false,false,false,false,false,false,false] rfl rfl (Qcy HT_.out (by kernel_rfl)) (fun _ _ _ h=>h) (Or.inl ⟨by rfl,?_⟩) ?_ ?_;rotate_left
        ·
         intro w';go_simp
         with_reducible rfl
        rotate_left
        ·
         simp only [Act.put,List.setIfInBounds_toArray,List.set_cons_zero,List.set_cons_succ,Qcb,Qcj];rfl
        refine Qc3 (i:=4) (N:=some 18) (v:= ?_) (a':= ?_) #[true,true,true,true,true,false,false,false,false,false,false,false,false,false,false,false] rfl rfl (Qcy HT_.out (by kernel_rfl)) (fun _ _ _ h=>h) (Or.inl ⟨by rfl,?_⟩) ?_ ?_;rotate_left
        ·
         intro w';go_simp
         with_reducible rfl
        rotate_left
        ·
         simp only [Act.put,List.setIfInBounds_toArray,List.set_cons_zero,List.set_cons_succ,Qcb,Qcj];rfl
        refine Qc3 (i:=5) (N:=some 19) (v:= ?_) (a':= ?_) #[true,true,true,true,true,true,false,false,false,false,false,false,false,false,false,false] rfl rfl (Qcy HT_.out (by kernel_rfl)) (fun _ _ _ h=>h) (Or.inl ⟨by rfl,?_⟩) ?_ ?_;rotate_left
        ·
         intro w';go_simp
         with_reducible rfl
        rotate_left
        ·
         simp only [Act.put,List.setIfInBounds_toArray,List.set_cons_zero,List.set_cons_succ,Qcb,Qcj];rfl
        refine Qc3 (i:=6) (N:=some 20) (v:= ?_) (a':= ?_) #[true,true,true,true,true,true,true,false,false,false,false,false,false,false,false,false] rfl rfl (Qcy HT_.out (by kernel_rfl)) (fun _ _ _ h=>h) (Or.inl ⟨by rfl,?_⟩) ?_ ?_;rotate_left
        ·
         intro w';go_simp
         with_reducible rfl
        rotate_left
        ·
         simp only [Act.put,List.setIfInBounds_toArray,List.set_cons_zero,List.set_cons_succ,Qcb,Qcj];rfl
        refine Qc3 (i:=8) (N:=some 22) (v:= ?_) (a':= ?_) #[true,true,true,true,true,true,true,false,true,false,false,false,false,false,false,false] rfl rfl (Qcy HT_.out (by kernel_rfl)) (fun _ _ _ h=>h) (Or.inl ⟨by rfl,?_⟩) ?_ ?_;rotate_left
        ·
         intro w';go_simp
         with_reducible rfl
        rotate_left
        ·
         simp only [Act.put,List.setIfInBounds_toArray,List.set_cons_zero,List.set_cons_succ,Qcb,Qcj];rfl
        refine Qc3 (i:=9) (N:=some 23) (v:= ?_) (a':= ?_) #[true,true,true,true,true,true,true,false,true,true,false,false,false,false,false,false] rfl rfl (Qcy HT_.out (by kernel_rfl)) (fun _ _ _ h=>h) (Or.inl ⟨by rfl,?_⟩) ?_ ?_;rotate_left
        ·
         intro w';go_simp
         with_reducible rfl
        rotate_left
        ·
         simp only [Act.put,List.setIfInBounds_toArray,List.set_cons_zero,List.set_cons_succ,Qcb,Qcj];rfl
        refine Qc3 (i:=10) (N:=some 24) (v:= ?_) (a':= ?_) #[true,true,true,true,true,true,true,false,true,true,true,false,false,false,false,false] rfl rfl (Qcy HT_.out (by kernel_rfl)) (fun _ _ _ h=>h) (Or.inl ⟨by rfl,?_⟩) ?_ ?_;rotate_left
        ·
         intro w';go_simp
         with_reducible rfl
        rotate_left
        ·
         simp only [Act.put,List.setIfInBounds_toArray,List.set_cons_zero,List.set_cons_succ,Qcb,Qcj];rfl
        refine take_ (i:=7) (N:=some 21) (v:= ?_) (a':= ?_) #[true,true,true,true,true,true,true,true,true,true,true,false,false,false,false,false] rfl rfl (Qdu HT_.out HW_.out (by kernel_rfl)) (fun _ _ _ h=>h) (Or.inl ⟨by rfl,?_⟩) hHeld ?_ ?_;rotate_left
        ·
         rintro w' ⟨s0,s1⟩;go_simp
         with_reducible rfl
        rotate_left
        ·
         simp only [Act.put,List.setIfInBounds_toArray,List.set_cons_zero,List.set_cons_succ,Qcb,Qcj];rfl
        refine take_ (i:=11) (N:=some 25) (v:= ?_) (a':= ?_) #[true,true,true,true,true,true,true,true,true,true,true,true,false,false,false,false] rfl rfl (Qdu HT_.out HW_.out (by kernel_rfl)) (fun _ _ _ h=>h) (Or.inl ⟨by rfl,?_⟩) hHeld ?_ ?_;rotate_left
        ·
         rintro w' ⟨s0,s1⟩;go_simp
         with_reducible rfl
        rotate_left
        ·
         simp only [Act.put,List.setIfInBounds_toArray,List.set_cons_zero,List.set_cons_succ,Qcb,Qcj];rfl
        refine Qc3 (i:=12) (N:=some 26) (v:= ?_) (a':= ?_) #[true,true,true,true,true,true,true,true,true,true,true,true,true,false,false,false] rfl rfl (Qcy HT_.out (by kernel_rfl)) (fun _ _ _ h=>h) (Or.inl ⟨by rfl,?_⟩) ?_ ?_;rotate_left
        ·
         intro w';go_simp
         with_reducible rfl
        rotate_left
        ·
         simp only [Act.put,List.setIfInBounds_toArray,List.set_cons_zero,List.set_cons_succ,Qcb,Qcj];rfl
        refine Qie (i:=13) (N:=none) #[true,true,true,true,true,true,true,true,true,true,true,true,true,true,false,false] rfl rfl (Qfe HT_.out (by kernel_rfl)) (by decide) (fun K hK=> ?_);refine Qh4 (w1:= ?_) (by rfl) rfl ?_ ?_;rotate_left
        ·
         go_simp;rfl
        refine hK.out _ _ ?_;clear hK K;refine Qc3 (i:=14) (N:=some 27) (v:= ?_) (a':= ?_) #[true,true,true,true,true,true,true,true,true,true,true,true,true,true,true,false] rfl rfl (Qcy HT_.out (by kernel_rfl)) (fun _ _ _ h=>h) (Or.inl ⟨by rfl,?_⟩) ?_ ?_;rotate_left
        ·
         intro w';go_simp
         with_reducible rfl
        rotate_left
        ·
         simp only [Act.put,List.setIfInBounds_toArray,List.set_cons_zero,List.set_cons_succ,Qcb,Qcj];rfl
        refine Qie (i:=15) (N:=none) #[true,true,true,true,true,true,true,true,true,true,true,true,true,true,true,true] rfl rfl (Qfe HT_.out (by kernel_rfl)) (by decide) (fun K hK=> ?_);refine Qh4 (w1:= ?_) (by rfl) rfl ?_ ?_;rotate_left
        ·
         go_simp;rfl
        refine hK.out _ _ ?_;clear hK K;refine Qik (Qg0 HT_.out (by kernel_rfl)) ?_
        try go_wp2
        (try simp only [←hl0_1])
        go_roundg k1
        case measure=>have:=HK1.out;omega
        case rel=>exact ⟨(y367),(wrap64 (x2_1+1)),(wrap64 (x3_1 - 1)),(by first|rfl|(simp;done)|(simp [*];done)),(by first|rfl|(simp;done)|(simp [*];done)),H',⟨by have:=HK1.out;omega⟩,⟨by (try simp only [hl0_1]);(with_reducible repeat (first|apply Kd.R_alloc|apply Kd.R_drewN|apply Kd.R_drew));exact HQ12.out⟩,⟨by repeat (first|(with_reducible first|exact HK.out|apply Kept.alloc|apply Kept.drewN|apply Kept.drew|refine Kept.setCell ?_ HMgo8.out _|refine Kept.setCell ?_ HMgo8.out _)|exact HK.out)⟩,⟨by repeat (first|(with_reducible first|exact HB.out|apply Qc|apply Qa|apply Qd|refine Qe ?_ GB8.out|refine Qe ?_ GB8.out)|exact HB.out)⟩⟩
       ·
        rw [if_neg c7] at H;exact absurd H (by simp)
      ·
       rw [if_neg c6] at H;exact absurd H (by simp)
     ·
      rw [if_neg c5] at H;exact absurd H (by simp)
    ·
     rw [if_neg c4] at H;exact absurd H (by simp)
   ·
    rw [if_neg c3] at H;have c3b0:decide (x2_1<x3_1)=false:=decide_eq_false c3;clear c3;obtain rfl:=Option.some.inj H;go_wp2
    first|go_end0|((try simp only [Exit.inBlock,Exit.then]);refine bodyPost_ret (results_none rfl _ _ _) rfl ?_)
    exact ⟨by first|rfl|(simp [Qm,Ql] <;>rfl)|(simp [*,Qm,Ql] <;>rfl),(by first|exact (by (with_reducible repeat (first|apply Kd.R_alloc|apply Kd.R_drewN|apply Kd.R_drew));exact HO_0.out)|(simp only [hl0_1];exact (by (with_reducible repeat (first|apply Kd.R_alloc|apply Kd.R_drewN|apply Kd.R_drew));exact HO_0.out))),by repeat (first|(with_reducible first|exact HB.out|apply Qc|apply Qa|apply Qd)|exact HB.out),by repeat (first|(with_reducible first|exact HK.out|apply Kept.alloc|apply Kept.drewN|apply Kept.drew)|exact HK.out)⟩
def Qb6.f (k : Nat) (l0 : List Int) : Option (List Int) := (Qb5.f l0).bind fun t368 => ((Qy.f k t368).bind fun t371 => (some t371))
theorem Qb6.mono : ∀ a0 k, LeO (Qb6.f k a0) (Qb6.f (k + 1) a0) := by
 intro a0 k;unfold Qb6.f
 repeat' first
  |(with_reducible exact Qy.mono _ _)
  |(with_reducible exact LeO.refl _)
  |(with_reducible exact LeO.none _)
  |(with_reducible refine LeO.ite ?_ ?_)
  |(with_reducible refine LeO.bind ?_ (fun _=> ?_))
  |exact Qy.mono _ _
  |exact LeO.none _
  |refine LeO.ite ?_ ?_
  |refine LeO.bind ?_ (fun _=> ?_)
set_option maxHeartbeats 8000000 in
set_option maxRecDepth 100000 in
theorem Qb6.calls (k : Nat) (A0 : Option Addr) (c0 : Nat) (l0 : List Int) (r : List Int) (w : World) (hr0 : Kd.C (Kd.int .i64) w A0 l0.length l0) (hc0 : l0.length ≤ c0) (h : Qb6.f k l0 = some r) :
 Calls Try.prog 63 #[.slice A0 l0.length c0] w fun e w'=> ∃ v0_:Value,e= .returned (v0_)∧Kd.R (Kd.int .i64) 3 w' w.heap.size (fun _=>True) v0_ r∧Below w.heap.size w w':=by
 have HR0:=Aside0.mk hr0;have HC0:=Aside0.mk hc0;clear hr0 hc0;have HB:=Aside0.mk (Below.refl w.heap.size w);have H:((Qb5.f l0).bind fun t368=>((Qy.f k t368).bind fun t371=>(some t371)))=some r:=h;clear h;replace H:=Option.bind_eq_some_iff.mp H;obtain ⟨t368,A20,H⟩:=H;replace H:((Qy.f k t368).bind fun t371=>(some t371))=some r:=H;have A2:=Aside0.mk A20;clear A20;replace H:=Option.bind_eq_some_iff.mp H;obtain ⟨t371,A30,H⟩:=H;replace H:(some t371)=some r:=H;have A3:=Aside0.mk A30;clear A30;obtain rfl:=Option.some.inj H;go_enter Try.func63,Try.ntmps63;go_wp2_with (first|((with_reducible refine Qk (f:=66) rfl ?_);refine Q6 (some 5) rfl rfl Try.func66 (by kernel_rfl) rfl #[.slice A0 l0.length c0] rfl (by (try simp only [List.map_toArray,List.map_cons,List.map_nil]);first|done|rfl|(simp only [List.length_drop,List.length_take];rfl)) ?_;(with_reducible refine (Qb5.calls _ _ l0 t368 _ ?side1 ?side2 A2.out).mono ?_);(case side1=>repeat (first|exact HR0.out|(with_reducible refine Kd.C_alloc ?_ _)|(with_reducible refine Kd.C_drewN ?_ _)|(with_reducible refine Kd.C_drew ?_)));(case side2=>exact HC0.out);rintro e w4 ⟨v369,rfl,ho0,hb⟩;refine ⟨_,rfl,?_⟩;have HO370:=Aside0.mk (Kd.R_lower ho0 (Qq (by repeat (first|(with_reducible first|exact HB.out|apply Qc|apply Qa|apply Qd)|exact HB.out))));replace HB:=Aside0.mk (Qj (by repeat (first|(with_reducible first|exact HB.out|apply Qc|apply Qa|apply Qd)|exact HB.out)) hb);(try clear hb);(try clear hb2);(try clear hk);(try clear hi);(try clear ho0);obtain ⟨Ao5,co5,eo5⟩:=Kd.R_slice HO370.out;subst eo5)|((with_reducible refine Qk (f:=93) rfl ?_);refine Q6 (some 7) rfl rfl Try.func93 (by kernel_rfl) rfl #[.slice Ao5 t368.length co5] rfl (by (try simp only [List.map_toArray,List.map_cons,List.map_nil]);first|done|rfl|(simp only [List.length_drop,List.length_take];rfl)) ?_;(with_reducible refine (Qy.calls k (fun k_=>some k_=(.slice Ao5 t368.length co5:Value).ownBlock) (.slice Ao5 t368.length co5) t368 t371 w _ ?side1 ?side2 A3.out).mono ?_);(case side1=>repeat (first|(with_reducible first|exact HB.out|apply Qc|apply Qa|apply Qd)|exact HB.out));(case side2=>exact Kd.R_tight rfl HO370.out);rintro e w6 ⟨rfl,hy0,hb,hkp⟩;refine ⟨_,rfl,?_⟩;replace HO370:=Aside0.mk (Kd.R_reok rfl hy0 (fun k_ e_=>HO370.out.1 k_ e_));replace HB:=Aside0.mk (hb);(try clear hb);(try clear hkp);(try clear hy0)))
 go_ret
 exact ⟨_,by first|rfl|(simp [Qm,Ql] <;>rfl)|(simp [*,Qm,Ql] <;>rfl),by (with_reducible repeat (first|apply Kd.R_alloc|apply Kd.R_drewN|apply Kd.R_drew));exact HO370.out,by repeat (first|(with_reducible first|exact HB.out|apply Qc|apply Qa|apply Qd)|exact HB.out)⟩
def Qbn.l0 : Nat → List Int → Int → Int → Option (List Int)
 |0,_,_,_=>none
 |k+1,x3,x6,x7=>if x7<x6 then (if x3.length<17592186044416 then (Qbn.l0 k (x3++ [x7]) x6 (wrap64 (x7+1))) else (none)) else (some x3)
def Qbn.f (k : Nat) (a0 : Int) : Option (List Int) := Qbn.l0 k (([] : List Int)) a0 0
theorem Qbn.mono_l : ∀ k, (∀ y0 y1 y2, LeO (Qbn.l0 k y0 y1 y2) (Qbn.l0 (k + 1) y0 y1 y2))
 |0=>fun _ _ _ r h=>by simp [Qbn.l0] at h
 |k+1=>by
  have ih0:=Qbn.mono_l k
  ·
   intro y0 y1 y2;unfold Qbn.l0
   repeat' first
   |(with_reducible exact ih0 _ _ _)
   |(with_reducible exact LeO.refl _)
   |(with_reducible exact LeO.none _)
   |(with_reducible refine LeO.ite ?_ ?_)
   |(with_reducible refine LeO.bind ?_ (fun _=> ?_))
   |exact ih0 _ _ _
   |exact LeO.none _
   |refine LeO.ite ?_ ?_
   |refine LeO.bind ?_ (fun _=> ?_)
theorem Qbn.mono : ∀ a0 k, LeO (Qbn.f k a0) (Qbn.f (k + 1) a0) := by
 intro a0 k;have ih0:=Qbn.mono_l k;unfold Qbn.f
 repeat' first
  |(with_reducible exact ih0 _ _ _)
  |(with_reducible exact LeO.refl _)
  |(with_reducible exact LeO.none _)
  |(with_reducible refine LeO.ite ?_ ?_)
  |(with_reducible refine LeO.bind ?_ (fun _=> ?_))
  |exact ih0 _ _ _
  |exact LeO.none _
  |refine LeO.ite ?_ ?_
  |refine LeO.bind ?_ (fun _=> ?_)
set_option maxHeartbeats 8000000 in
set_option maxRecDepth 100000 in
theorem Qbn.calls (k : Nat) (a0 : Int) (r : List Int) (w : World) (h : Qbn.f k a0 = some r) :
 Calls Try.prog 64 #[.int .i64 a0] w fun e w'=> ∃ v0_:Value,e= .returned (v0_)∧Kd.R (Kd.int .i64) 3 w' w.heap.size (fun _=>True) v0_ r∧Below w.heap.size w w':=by
 have HB:=Aside0.mk (Below.refl w.heap.size w);have H:(Qbn.l0 k (([] :List Int)) a0 0)=some r:=h;clear h;obtain ⟨y372,hy372⟩: ∃ y_:List Int,y_=(([] :List Int)):=⟨_,rfl⟩
 replace H:(Qbn.l0 k y372 a0 0)=some r:=by first|(rw [hy372];with_reducible exact H)|(have H2_:=(Option.bind_some _ _).symm.trans H;rw [hy372];with_reducible exact H2_)|(have H2_:=(Option.bind_some _ _).symm.trans H;with_reducible exact H2_)|with_reducible exact H|(rw [hy372];exact H)|exact H
 have Ny372:=Aside0.mk hy372;clear hy372;have H':=Aside0.mk H;clear H;go_enter Try.func64,Try.ntmps64;go_wp2_with (first|((with_reducible refine Qbb (N:=5) rfl ?_);refine Kd.R_lit (Kd.int .i64) _ 3 ?hg (N:=5) ?hd (xs:=([] :List Int)) (inner:= []) (ok:=fun _=>True) (okp:=fun _=>True) ?hr ?hp (fun _ hk=>hk) trivial (Below.refl _ _) (Nat.le_refl _) (by simp) ?_;(case hd=>rfl);(case hg=>rfl);(case hr=>first|(go_simp;done)|(go_simp;rfl));(case hp=>exact (Reps.none _ _));intro v373 w2 ho3 hb hg_ hnew_;clear hg_ hnew_;(first|rw [←Ny372.out] at ho3|(simp only [Int.reduceToNat] at ho3;rw [←Ny372.out] at ho3));have HO374:=Aside0.mk (Kd.R_lower ho3 (Qq (by repeat (first|(with_reducible first|exact HB.out|apply Qc|apply Qa|apply Qd)|exact HB.out))));replace HB:=Aside0.mk (Qj (by repeat (first|(with_reducible first|exact HB.out|apply Qc|apply Qa|apply Qd)|exact HB.out)) hb);clear hb ho3))
 go_loopg [3,7] k (fun kq v3 v7 w'=> ∃ (x3_1:List Int) (x7_1:Int),v7= .int .i64 x7_1∧Aside0 (Qbn.l0 kq x3_1 a0 x7_1=some r)∧Aside0 (kq≤k)∧Aside0 (Kd.R (Kd.int .i64) 3 w' w.heap.size (fun _=>True) v3 x3_1)∧Aside0 (Below w.heap.size w w'))
 case atStart=>exact ⟨(y372),(0),(by first|rfl|(simp;done)|(simp [*];done)),H',⟨Nat.le_refl _⟩,⟨by (with_reducible repeat (first|apply Kd.R_alloc|apply Kd.R_drewN|apply Kd.R_drew));exact HO374.out⟩,⟨by repeat (first|(with_reducible first|exact HB.out|apply Qc|apply Qa|apply Qd)|exact HB.out)⟩⟩
 case round=>
  clear H'
  try clear p2
  obtain ⟨x3_1,x7_1,rfl,HA,HK1,HO_3,HB⟩:=hrel;cases gk with
  |zero=>exact absurd HA.out (by simp [Qbn.l0])
  |succ k1=>
   have H:=HA.out;clear HA;simp only [Qbn.l0] at H
   by_cases c4:x7_1<a0
   ·
    rw [if_pos c4] at H;have c4b0:decide (x7_1<a0)=true:=decide_eq_true c4;clear c4
    by_cases c5:x3_1.length<17592186044416
    ·
     rw [if_pos c5] at H;have LMc5:=Aside0.mk c5;clear c5;obtain ⟨y375,hy375⟩: ∃ y_:List Int,y_=(x3_1++ [x7_1]):=⟨_,rfl⟩
     replace H:(Qbn.l0 k1 y375 a0 (wrap64 (x7_1+1)))=some r:=by first|(rw [hy375];with_reducible exact H)|(have H2_:=(Option.bind_some _ _).symm.trans H;rw [hy375];with_reducible exact H2_)|(have H2_:=(Option.bind_some _ _).symm.trans H;with_reducible exact H2_)|with_reducible exact H|(rw [hy375];exact H)|exact H
     have Ny375:=Aside0.mk hy375;clear hy375;have H':=Aside0.mk H;clear H;go_wp2_with (first|((with_reducible refine Qcv (b:= .append) (xs:= #[.tmp 10, .tmp 12]) rfl ?_);at_builtin;refine Kd.R_append (Kd.int .i64) (w0:=w) w.heap.size rfl (.tmp 10) (.tmp 12) 24 3 (.int .i64 0) 8 rfl Try.underlying24 Qec rfl (by decide) (by omega) u3 x3_1 x7_1 [.int .i64 x7_1] (fun _=>True) (fun _=>False) rfl rfl ?aP (fun _ hk=>hk.elim) ?aF ?aO ?aB ?aS ?aL ?_;(case aP=>exact rfl);(case aB=>exact (by repeat (first|(with_reducible first|exact HB.out|apply Qc|apply Qa|apply Qd)|exact HB.out)));(case aF=>exact (fun _ _=>trivial));(case aO=>exact (by (with_reducible repeat (first|apply Kd.R_alloc|apply Kd.R_drewN|apply Kd.R_drew));exact HO_3.out));(case aS=>exact (Qq (by repeat (first|(with_reducible first|exact HB.out|apply Qc|apply Qa|apply Qd)|exact HB.out))));(case aL=>have:=LMc5.out;omega);intro v376 w6 ho hb hg hat;rw [←Ny375.out] at ho;replace HB:=Aside0.mk (hb);have HO377:=Aside0.mk (ho);clear HO_3;clear ho hb hg hat));go_roundg k1
     case measure=>have:=HK1.out;omega
     case rel=>exact ⟨(y375),(wrap64 (x7_1+1)),(by first|rfl|(simp;done)|(simp [*];done)),H',⟨by have:=HK1.out;omega⟩,⟨by (with_reducible repeat (first|apply Kd.R_alloc|apply Kd.R_drewN|apply Kd.R_drew));exact HO377.out⟩,⟨by repeat (first|(with_reducible first|exact HB.out|apply Qc|apply Qa|apply Qd)|exact HB.out)⟩⟩
    ·
     rw [if_neg c5] at H;exact absurd H (by simp)
   ·
    rw [if_neg c4] at H;have c4b0:decide (x7_1<a0)=false:=decide_eq_false c4;clear c4;obtain rfl:=Option.some.inj H;go_wp2
    go_ret
    exact ⟨_,by first|rfl|(simp [Qm,Ql] <;>rfl)|(simp [*,Qm,Ql] <;>rfl),by (with_reducible repeat (first|apply Kd.R_alloc|apply Kd.R_drewN|apply Kd.R_drew));exact HO_3.out,by repeat (first|(with_reducible first|exact HB.out|apply Qc|apply Qa|apply Qd)|exact HB.out)⟩
def Qbq.l0 : Nat → List Int → List Int → Int → Int → Option (Bool)
 |0,_,_,_,_=>none
 |k+1,x0,x1,x12,x13=>if x13<x12 then (if 0≤x13 then (if x13<(x0.length:Int) then (if x13<(x1.length:Int) then (if (rd x0 x13)=(rd x1 x13) then (Qbq.l0 k x0 x1 x12 (wrap64 (x13+1))) else (some false)) else (none)) else (none)) else (none)) else (some true)
def Qbq.f (k : Nat) (l0 : List Int) (l1 : List Int) : Option (Bool) := if (l0.length : Int) = (l1.length : Int) then (Qbq.l0 k l0 l1 (l0.length : Int) 0) else (some false)
theorem Qbq.mono_l : ∀ k, (∀ y0 y1 y2 y3, LeO (Qbq.l0 k y0 y1 y2 y3) (Qbq.l0 (k + 1) y0 y1 y2 y3))
 |0=>fun _ _ _ _ r h=>by simp [Qbq.l0] at h
 |k+1=>by
  have ih0:=Qbq.mono_l k
  ·
   intro y0 y1 y2 y3;unfold Qbq.l0
   repeat' first
   |(with_reducible exact ih0 _ _ _ _)
   |(with_reducible exact LeO.refl _)
   |(with_reducible exact LeO.none _)
   |(with_reducible refine LeO.ite ?_ ?_)
   |(with_reducible refine LeO.bind ?_ (fun _=> ?_))
   |exact ih0 _ _ _ _
   |exact LeO.none _
   |refine LeO.ite ?_ ?_
   |refine LeO.bind ?_ (fun _=> ?_)
theorem Qbq.mono : ∀ a0 a1 k, LeO (Qbq.f k a0 a1) (Qbq.f (k + 1) a0 a1) := by
 intro a0 a1 k;have ih0:=Qbq.mono_l k;unfold Qbq.f
 repeat' first
  |(with_reducible exact ih0 _ _ _ _)
  |(with_reducible exact LeO.refl _)
  |(with_reducible exact LeO.none _)
  |(with_reducible refine LeO.ite ?_ ?_)
  |(with_reducible refine LeO.bind ?_ (fun _=> ?_))
  |exact ih0 _ _ _ _
  |exact LeO.none _
  |refine LeO.ite ?_ ?_
  |refine LeO.bind ?_ (fun _=> ?_)
set_option maxHeartbeats 8000000 in
set_option maxRecDepth 100000 in
theorem Qbq.calls (k : Nat) (A0 : Option Addr) (c0 : Nat) (l0 : List Int) (A1 : Option Addr) (c1 : Nat) (l1 : List Int) (r : Bool) (w : World) (hr0 : Kd.C (Kd.int .i64) w A0 l0.length l0) (hc0 : l0.length ≤ c0) (hr1 : Kd.C (Kd.int .i64) w A1 l1.length l1) (hc1 : l1.length ≤ c1) (h : Qbq.f k l0 l1 = some r) :
 Calls Try.prog 67 #[.slice A0 l0.length c0, .slice A1 l1.length c1] w fun e w'=>e= .returned (.bool r)∧Drawn0 w w':=by
 have HR0:=Aside0.mk hr0;have HC0:=Aside0.mk hc0;clear hr0 hc0;have HR1:=Aside0.mk hr1;have HC1:=Aside0.mk hc1;clear hr1 hc1;have H:(if (l0.length:Int)=(l1.length:Int) then (Qbq.l0 k l0 l1 (l0.length:Int) 0) else (some false))=some r:=h;clear h
 by_cases c3:(l0.length:Int)=(l1.length:Int)
 ·
  rw [if_pos c3] at H;have c3b0:((l0.length:Int)==(l1.length:Int))=true:=beq_iff_eq.mpr c3;have c3b1:((l0.length:Int) !=(l1.length:Int))=false:=bne_eq_false_iff_eq.mpr c3;have c3b2:(l0.length==l1.length)=true:=by first|simpa using c3|(simp at c3 ⊢;omega)
  clear c3;have H':=Aside0.mk H;clear H;go_enter Try.func67,Try.ntmps67;go_wp2
  repeat (go_quiet (fail);try go_wp2)
  go_loopg [13] k (fun kq v13 w'=> ∃ (x13_1:Int),v13= .int .i64 x13_1∧Aside0 (Qbq.l0 kq l0 l1 (l0.length:Int) x13_1=some r)∧Aside0 (kq≤k)∧Drawn0 w w')
  case atStart=>exact ⟨(0),(by first|rfl|(simp;done)|(simp [*];done)),H',⟨Nat.le_refl _⟩,by repeat (first|exact Drawn0.refl _|apply Drawn0.step)⟩
  case round=>
   clear H'
   try clear c1
   try clear p2
   try clear c3
   try clear c3b0
   try clear c3b1
   try clear c3b2
   obtain ⟨x13_1,rfl,HA,HK1,⟨m1,rfl⟩⟩:=hrel;cases gk with
   |zero=>exact absurd HA.out (by simp [Qbq.l0])
   |succ k1=>
    have H:=HA.out;clear HA;simp only [Qbq.l0] at H
    by_cases c4:x13_1<(l0.length:Int)
    ·
     rw [if_pos c4] at H;have c4b0:decide (x13_1<(l0.length:Int))=true:=decide_eq_true c4;clear c4
     by_cases c5:0≤x13_1
     ·
      rw [if_pos c5] at H;have c5b0:decide (0≤x13_1)=true:=decide_eq_true c5;clear c5
      by_cases c6:x13_1<(l0.length:Int)
      ·
       rw [if_pos c6] at H;have c6b0:decide (x13_1<(l0.length:Int))=true:=decide_eq_true c6;clear c6
       by_cases c7:x13_1<(l1.length:Int)
       ·
        rw [if_pos c7] at H;have c7b0:decide (x13_1<(l1.length:Int))=true:=decide_eq_true c7;clear c7
        by_cases c8:(rd l0 x13_1)=(rd l1 x13_1)
        ·
         rw [if_pos c8] at H;have c8b0:((rd l0 x13_1)==(rd l1 x13_1))=true:=beq_iff_eq.mpr c8;have c8b1:((rd l0 x13_1) !=(rd l1 x13_1))=false:=bne_eq_false_iff_eq.mpr c8;clear c8;have H':=Aside0.mk H;clear H;have p378:0≤(x13_1:Int):=of_decide_eq_true (by first|(with_reducible assumption)|assumption);have q378:x13_1<(l0.length:Int):=of_decide_eq_true (by first|(with_reducible assumption)|assumption);obtain ⟨ad378,e378,hx378_0⟩:=Kd.at_int HR0.out x13_1 p378 q378;cases e378;replace p378:=eq_true p378;replace q378:=eq_true q378;have p379:0≤(x13_1:Int):=of_decide_eq_true (by first|(with_reducible assumption)|assumption);have q379:x13_1<(l1.length:Int):=of_decide_eq_true (by first|(with_reducible assumption)|assumption);obtain ⟨ad379,e379,hx379_0⟩:=Kd.at_int HR1.out x13_1 p379 q379;cases e379;replace p379:=eq_true p379;replace q379:=eq_true q379;go_wp2
         repeat (go_quiet (fail);try go_wp2)
         go_roundg k1
         case measure=>have:=HK1.out;omega
         case rel=>exact ⟨(wrap64 (x13_1+1)),(by first|rfl|(simp;done)|(simp [*];done)),H',⟨by have:=HK1.out;omega⟩,by repeat (first|exact Drawn0.refl _|apply Drawn0.step)⟩
        ·
         rw [if_neg c8] at H;have c8b0:((rd l0 x13_1)==(rd l1 x13_1))=false:=beq_eq_false_iff_ne.mpr c8;have c8b1:((rd l0 x13_1) !=(rd l1 x13_1))=true:=bne_iff_ne.mpr c8;obtain rfl:=Option.some.inj H;have p378:0≤(x13_1:Int):=of_decide_eq_true (by first|(with_reducible assumption)|assumption);have q378:x13_1<(l0.length:Int):=of_decide_eq_true (by first|(with_reducible assumption)|assumption);obtain ⟨ad378,e378,hx378_0⟩:=Kd.at_int HR0.out x13_1 p378 q378;cases e378;replace p378:=eq_true p378;replace q378:=eq_true q378;have p379:0≤(x13_1:Int):=of_decide_eq_true (by first|(with_reducible assumption)|assumption);have q379:x13_1<(l1.length:Int):=of_decide_eq_true (by first|(with_reducible assumption)|assumption);obtain ⟨ad379,e379,hx379_0⟩:=Kd.at_int HR1.out x13_1 p379 q379;cases e379;replace p379:=eq_true p379;replace q379:=eq_true q379;go_wp2
         repeat (go_quiet (fail);try go_wp2)
         go_ret
         exact ⟨by first|rfl|(simp;done)|(simp [*];done),by repeat (first|exact Drawn0.refl _|apply Drawn0.step)⟩
       ·
        rw [if_neg c7] at H;exact absurd H (by simp)
      ·
       rw [if_neg c6] at H;exact absurd H (by simp)
     ·
      rw [if_neg c5] at H;exact absurd H (by simp)
    ·
     rw [if_neg c4] at H;have c4b0:decide (x13_1<(l0.length:Int))=false:=decide_eq_false c4;clear c4;obtain rfl:=Option.some.inj H;go_wp2
     repeat (go_quiet (fail);try go_wp2)
     go_ret
     exact ⟨by first|rfl|(simp;done)|(simp [*];done),by repeat (first|exact Drawn0.refl _|apply Drawn0.step)⟩
 ·
  rw [if_neg c3] at H;have c3b0:((l0.length:Int)==(l1.length:Int))=false:=beq_eq_false_iff_ne.mpr c3;have c3b1:((l0.length:Int) !=(l1.length:Int))=true:=bne_iff_ne.mpr c3;have c3b2:(l0.length==l1.length)=false:=by first|simpa using c3|(simp at c3 ⊢;omega)
  obtain rfl:=Option.some.inj H;go_enter Try.func67,Try.ntmps67;go_wp2
  repeat (go_quiet (fail);try go_wp2)
  go_ret
  exact ⟨by first|rfl|(simp;done)|(simp [*];done),by repeat (first|exact Drawn0.refl _|apply Drawn0.step)⟩
mutual
def Q9.l0 : Nat → List Int → Int → Int → Int → List Int → Int → Int → List Int → Option (Int × Int)
 |0,_,_,_,_,_,_,_,_=>none
 |k+1,x1,x3,x10,x11,x21,x22,x23,x381000=>if x23<x22 then (if 0≤x23 then (if x23<(x21.length:Int) then (if 0≤(rd x21 x23) then (if (rd x21 x23)<(x1.length:Int) then (Q9.l0 k x1 x3 (mx x10 (rd x1 (rd x21 x23))) x11 x21 x22 (wrap64 (x23+1)) x381000) else (none)) else (none)) else (none)) else (none)) else ((Qch.f x381000).bind fun t387=>(Q9.l1 k x1 x3 x10 x11 t387 0 x381000))
def Q9.l1 : Nat → List Int → Int → Int → Int → Int → Int → List Int → Option (Int × Int)
 |0,_,_,_,_,_,_,_=>none
 |k+1,x1,x3,x10,x11,x35,x36,x381000=>if x36<x35 then (if 0≤x36 then (if x36<(x381000.length:Int) then ((Qdi.f (rd x381000 x36) x3).bind fun t389=>(if t389=true then (if x36<(x1.length:Int) then (Q9.l1 k x1 x3 x10 (mn x11 (rd x1 x36)) x35 (wrap64 (x36+1)) x381000) else (none)) else (Q9.l1 k x1 x3 x10 x11 x35 (wrap64 (x36+1)) x381000))) else (none)) else (none)) else (some (x10,x11))
end
def Q9.f (k : Nat) (l0_0 : List Int) (l1 : List Int) (a2 : Int) (a3 : Int) : Option (Int × Int) := if 0 ≤ a3 then (if a3 < (l0_0.length : Int) then ((Qbv.f k (rd l0_0 a3)).bind fun t382 => (Q9.l0 k l1 a3 0 a2 t382 (t382.length : Int) 0 l0_0)) else (none)) else (none)
theorem Q9.mono_l : ∀ k, (∀ y0 y1 y2 y3 y4 y5 y6 y7, LeO (Q9.l0 k y0 y1 y2 y3 y4 y5 y6 y7) (Q9.l0 (k + 1) y0 y1 y2 y3 y4 y5 y6 y7)) ∧ (∀ y0 y1 y2 y3 y4 y5 y6, LeO (Q9.l1 k y0 y1 y2 y3 y4 y5 y6) (Q9.l1 (k + 1) y0 y1 y2 y3 y4 y5 y6))
 |0=>⟨fun _ _ _ _ _ _ _ _ r h=>by simp [Q9.l0] at h,fun _ _ _ _ _ _ _ r h=>by simp [Q9.l1] at h⟩
 |k+1=>by
  obtain ⟨ih0,ih1⟩:=Q9.mono_l k;refine ⟨?_,?_⟩
  ·
   intro y0 y1 y2 y3 y4 y5 y6 y7;unfold Q9.l0
   repeat' first
   |(with_reducible exact ih0 _ _ _ _ _ _ _ _)
   |(with_reducible exact ih1 _ _ _ _ _ _ _)
   |(with_reducible exact Qbv.mono _ _)
   |(with_reducible exact LeO.refl _)
   |(with_reducible exact LeO.none _)
   |(with_reducible refine LeO.ite ?_ ?_)
   |(with_reducible refine LeO.bind ?_ (fun _=> ?_))
   |exact ih0 _ _ _ _ _ _ _ _
   |exact ih1 _ _ _ _ _ _ _
   |exact Qbv.mono _ _
   |exact LeO.none _
   |refine LeO.ite ?_ ?_
   |refine LeO.bind ?_ (fun _=> ?_)
  ·
   intro y0 y1 y2 y3 y4 y5 y6;unfold Q9.l1
   repeat' first
   |(with_reducible exact ih0 _ _ _ _ _ _ _ _)
   |(with_reducible exact ih1 _ _ _ _ _ _ _)
   |(with_reducible exact Qbv.mono _ _)
   |(with_reducible exact LeO.refl _)
   |(with_reducible exact LeO.none _)
   |(with_reducible refine LeO.ite ?_ ?_)
   |(with_reducible refine LeO.bind ?_ (fun _=> ?_))
   |exact ih0 _ _ _ _ _ _ _ _
   |exact ih1 _ _ _ _ _ _ _
   |exact Qbv.mono _ _
   |exact LeO.none _
   |refine LeO.ite ?_ ?_
   |refine LeO.bind ?_ (fun _=> ?_)
theorem Q9.mono : ∀ a0 a1 a2 a3 k, LeO (Q9.f k a0 a1 a2 a3) (Q9.f (k + 1) a0 a1 a2 a3) := by
 intro a0 a1 a2 a3 k;obtain ⟨ih0,ih1⟩:=Q9.mono_l k;unfold Q9.f
 repeat' first
  |(with_reducible exact ih0 _ _ _ _ _ _ _ _)
  |(with_reducible exact ih1 _ _ _ _ _ _ _)
  |(with_reducible exact Qbv.mono _ _)
  |(with_reducible exact LeO.refl _)
  |(with_reducible exact LeO.none _)
  |(with_reducible refine LeO.ite ?_ ?_)
  |(with_reducible refine LeO.bind ?_ (fun _=> ?_))
  |exact ih0 _ _ _ _ _ _ _ _
  |exact ih1 _ _ _ _ _ _ _
  |exact Qbv.mono _ _
  |exact LeO.none _
  |refine LeO.ite ?_ ?_
  |refine LeO.bind ?_ (fun _=> ?_)
set_option maxHeartbeats 8000000 in
set_option maxRecDepth 100000 in
theorem Q9.calls (k : Nat) (A0_0 : Option Addr) (c0_0 : Nat) (l0_0 : List Int) (A1 : Option Addr) (c1 : Nat) (l1 : List Int) (a2 : Int) (a3 : Int) (r1 : Int) (r2 : Int) (w : World) (hr0_0 : Kd.C (Kd.int .i64) w A0_0 l0_0.length l0_0) (hc0_0 : l0_0.length ≤ c0_0) (hr1 : Kd.C (Kd.int .i64) w A1 l1.length l1) (hc1 : l1.length ≤ c1) (h : Q9.f k l0_0 l1 a2 a3 = some (r1, r2)) :
 Calls Try.prog 82 #[.agg #[.slice A0_0 l0_0.length c0_0], .slice A1 l1.length c1, .int .i64 a2, .int .i64 a3] w fun e w'=>e= .returned (.tuple #[.int .i64 r1, .int .i64 r2])∧Below w.heap.size w w':=by
 have hu26:=Try.underlying26;have HR0_0:=Aside0.mk hr0_0;have HC0_0:=Aside0.mk hc0_0;clear hr0_0 hc0_0;have HR1:=Aside0.mk hr1;have HC1:=Aside0.mk hc1;clear hr1 hc1;have HB:=Aside0.mk (Below.refl w.heap.size w);have H:(if 0≤a3 then (if a3<(l0_0.length:Int) then ((Qbv.f k (rd l0_0 a3)).bind fun t382=>(Q9.l0 k l1 a3 0 a2 t382 (t382.length:Int) 0 l0_0)) else (none)) else (none))=some (r1,r2):=h;clear h
 by_cases c5:0≤a3
 ·
  rw [if_pos c5] at H;have c5b0:decide (0≤a3)=true:=decide_eq_true c5;clear c5
  by_cases c6:a3<(l0_0.length:Int)
  ·
   rw [if_pos c6] at H;have c6b0:decide (a3<(l0_0.length:Int))=true:=decide_eq_true c6;clear c6;replace H:=Option.bind_eq_some_iff.mp H;obtain ⟨t382,A70,H⟩:=H;replace H:(Q9.l0 k l1 a3 0 a2 t382 (t382.length:Int) 0 l0_0)=some (r1,r2):=H;have A7:=Aside0.mk A70;clear A70;have H':=Aside0.mk H;clear H;go_enter Try.func82,Try.ntmps82;go_wp2_with (first|((with_reducible refine Qbb (N:=4) rfl ?_);refine Qbg ?hg (N:=4) ?hd (cs:= #[.slice A0_0 l0_0.length c0_0]) (t:=26) ?hr ?_;(case hd=>rfl);(case hg=>rfl);(case hr=>first|(go_simp;done)|(go_simp;rfl));intro gb380 hg w8 hbox hb;have BK380:=Aside0.mk (hbox);have GW380:=Aside0.mk ((by rw [hg];exact (Qq (by repeat (first|(with_reducible first|exact HB.out|apply Qc|apply Qa|apply Qd)|exact HB.out))):w.heap.size≤gb380));have GE380:=GW380;replace HB:=Aside0.mk (Qj (by repeat (first|(with_reducible first|exact HB.out|apply Qc|apply Qa|apply Qd)|exact HB.out)) hb);clear hb hbox hg;have hcz9_0:w8.cell? ⟨gb380,0,none⟩=some (.slice A0_0 l0_0.length c0_0):=(Qx BK380.out 0).trans rfl;have hfz9_0:=Qp BK380.out 0;have p381:0≤(a3:Int):=of_decide_eq_true (by first|(with_reducible assumption)|assumption);have q381:a3<(l0_0.length:Int):=of_decide_eq_true (by first|(with_reducible assumption)|assumption);obtain ⟨ad381,e381,hx381_0⟩:=Kd.at_int HR0_0.out a3 p381 q381;cases e381;replace hx381_0:=(HB.out.cell (World.block_lt_of_cell? w _ hx381_0)).trans hx381_0;replace p381:=eq_true p381;replace q381:=eq_true q381)|((with_reducible refine Qk (f:=116) rfl ?_);refine Q6 (some 21) rfl rfl Try.func116 (by kernel_rfl) rfl #[.int .i64 (rd l0_0 a3)] rfl (by (try simp only [List.map_toArray,List.map_cons,List.map_nil]);first|done|rfl|(simp only [List.length_drop,List.length_take];rfl)) ?_;(with_reducible refine (Qbv.calls k (rd l0_0 a3) t382 _ A7.out).mono ?_);rintro e w10 ⟨v383,rfl,ho0,hb⟩;refine ⟨_,rfl,?_⟩;have HO384:=Aside0.mk (Kd.R_lower ho0 (Qq (by repeat (first|(with_reducible first|exact HB.out|apply Qc|apply Qa|apply Qd|refine Qe ?_ GE380.out)|exact HB.out))));replace BK380:=Aside0.mk (Qu (g:=gb380) (o:= .cells #[.slice (some ad381) l0_0.length c0_0] 26 (0,0)) (by (with_reducible repeat (first|refine Qg ?_ _|refine Qh ?_|refine Qf ?_ _));exact BK380.out) hb);replace HB:=Aside0.mk (Qj (by repeat (first|(with_reducible first|exact HB.out|apply Qc|apply Qa|apply Qd|refine Qe ?_ GE380.out)|exact HB.out)) hb);(try clear hb);(try clear hb2);(try clear hk);(try clear hi);(try clear ho0);obtain ⟨Ao11,co11,eo11⟩:=Kd.R_slice HO384.out;subst eo11))
   go_loopg [10,23] k (fun kq v10 v23 w'=> ∃ (x10_1:Int) (x23_1:Int),v10= .int .i64 x10_1∧v23= .int .i64 x23_1∧Aside0 (Q9.l0 kq l1 a3 x10_1 a2 t382 (t382.length:Int) x23_1 l0_0=some (r1,r2))∧Aside0 (kq≤k)∧Aside0 (Kd.R (Kd.int .i64) 3 w' w.heap.size (fun _=>True) (.slice Ao11 t382.length co11) t382)∧Aside0 (w'.heap[gb380]? =some (.cells #[(.slice (some ad381) l0_0.length c0_0)] 26 (0,0)))∧Aside0 (Below w.heap.size w w'))
   case atStart=>exact ⟨(0),(0),(by first|rfl|(simp;done)|(simp [*];done)),(by first|rfl|(simp;done)|(simp [*];done)),H',⟨Nat.le_refl _⟩,⟨by (with_reducible repeat (first|apply Kd.R_alloc|apply Kd.R_drewN|apply Kd.R_drew));exact HO384.out⟩,⟨by (with_reducible repeat (first|refine Qg ?_ _|refine Qh ?_|refine Qf ?_ _));exact BK380.out⟩,⟨by repeat (first|(with_reducible first|exact HB.out|apply Qc|apply Qa|apply Qd|refine Qe ?_ GE380.out)|exact HB.out)⟩⟩
   case round=>
    clear H'
    try clear c1
    try clear p2
    try clear p3
    try clear q3
    try clear hx3
    try clear c5
    try clear c5b0
    try clear c6
    try clear c6b0
    try clear c8
    try clear c11
    try clear hcz9_0
    try clear hfz9_0
    try clear hx381_0
    try clear p381
    try clear q381
    obtain ⟨x10_1,x23_1,rfl,rfl,HA,HK1,HO_21,BK380,HB⟩:=hrel;cases gk with
    |zero=>exact absurd HA.out (by simp [Q9.l0])
    |succ k1=>
     have H:=HA.out;clear HA;simp only [Q9.l0] at H
     by_cases c12:x23_1<(t382.length:Int)
     ·
      rw [if_pos c12] at H;have c12b0:decide (x23_1<(t382.length:Int))=true:=decide_eq_true c12;clear c12
      by_cases c13:0≤x23_1
      ·
       rw [if_pos c13] at H;have c13b0:decide (0≤x23_1)=true:=decide_eq_true c13;clear c13
       by_cases c14:x23_1<(t382.length:Int)
       ·
        rw [if_pos c14] at H;have c14b0:decide (x23_1<(t382.length:Int))=true:=decide_eq_true c14;clear c14
        by_cases c15:0≤(rd t382 x23_1)
        ·
         rw [if_pos c15] at H;have c15b0:decide (0≤(rd t382 x23_1))=true:=decide_eq_true c15;clear c15
         by_cases c16:(rd t382 x23_1)<(l1.length:Int)
         ·
          rw [if_pos c16] at H;have c16b0:decide ((rd t382 x23_1)<(l1.length:Int))=true:=decide_eq_true c16;clear c16;obtain ⟨ji17,hji17⟩: ∃ j_:Int,(mx x10_1 (rd l1 (rd t382 x23_1)))=j_:=⟨_,rfl⟩
          replace H:(Q9.l0 k1 l1 a3 ji17 a2 t382 (t382.length:Int) (wrap64 (x23_1+1)) l0_0)=some (r1,r2):=by first|(rw [hji17] at H;exact H)|(simp only [hji17] at H ⊢;exact H)
          have hji17_:(if x10_1<(rd l1 (rd t382 x23_1)) then (rd l1 (rd t382 x23_1)) else x10_1)=ji17:=hji17;have H':=Aside0.mk H;clear H;have p385:0≤(x23_1:Int):=of_decide_eq_true (by first|(with_reducible assumption)|assumption);have q385:x23_1<(t382.length:Int):=of_decide_eq_true (by first|(with_reducible assumption)|assumption);obtain ⟨ad385,e385,hx385_0⟩:=Kd.at_int (Kd.R_reads' HO_21.out).2.2 x23_1 p385 q385;cases e385;replace p385:=eq_true p385;replace q385:=eq_true q385;have p386:0≤((rd t382 x23_1):Int):=of_decide_eq_true (by first|(with_reducible assumption)|assumption);have q386:(rd t382 x23_1)<(l1.length:Int):=of_decide_eq_true (by first|(with_reducible assumption)|assumption);obtain ⟨ad386,e386,hx386_0⟩:=Kd.at_int HR1.out (rd t382 x23_1) p386 q386;cases e386;replace hx386_0:=(HB.out.cell (World.block_lt_of_cell? w _ hx386_0)).trans hx386_0;replace p386:=eq_true p386;replace q386:=eq_true q386;go_wp2;go_roundg k1
          case measure=>have:=HK1.out;omega
          case rel=>exact ⟨(ji17),(wrap64 (x23_1+1)),(by first|rfl|(simp;done)|(simp only [←hji17] <;>(first|rfl|simp))|(simp [*];done)),(by first|rfl|(simp;done)|(simp [*];done)),H',⟨by have:=HK1.out;omega⟩,⟨by (with_reducible repeat (first|apply Kd.R_alloc|apply Kd.R_drewN|apply Kd.R_drew));exact HO_21.out⟩,⟨by (with_reducible repeat (first|refine Qg ?_ _|refine Qh ?_|refine Qf ?_ _));exact BK380.out⟩,⟨by repeat (first|(with_reducible first|exact HB.out|apply Qc|apply Qa|apply Qd|refine Qe ?_ GE380.out)|exact HB.out)⟩⟩
         ·
          rw [if_neg c16] at H;exact absurd H (by simp)
        ·
         rw [if_neg c15] at H;exact absurd H (by simp)
       ·
        rw [if_neg c14] at H;exact absurd H (by simp)
      ·
       rw [if_neg c13] at H;exact absurd H (by simp)
     ·
      rw [if_neg c12] at H;have c12b0:decide (x23_1<(t382.length:Int))=false:=decide_eq_false c12;clear c12;replace H:=Option.bind_eq_some_iff.mp H;obtain ⟨t387,A180,H⟩:=H;replace H:(Q9.l1 k1 l1 a3 x10_1 a2 t387 0 l0_0)=some (r1,r2):=H;have A18:=Aside0.mk A180;clear A180;have H':=Aside0.mk H;clear H;have hcz19_0:wr.cell? ⟨gb380,0,none⟩=some (.slice (some ad381) l0_0.length c0_0):=(Qx BK380.out 0).trans rfl;have hfz19_0:=Qp BK380.out 0;go_wp2_with (first|((with_reducible refine Qk (f:=65) rfl ?_);refine Q6 (some 35) rfl rfl Try.func65 (by kernel_rfl) rfl #[.agg #[.slice (some ad381) l0_0.length c0_0]] rfl (by (try simp only [List.map_toArray,List.map_cons,List.map_nil]);first|done|rfl|(simp only [List.length_drop,List.length_take];rfl)) ?_;(with_reducible refine (Qch.calls _ _ l0_0 t387 _ ?side1 ?side2 A18.out).mono ?_);(case side1=>repeat (first|exact (Kd.C_below HR0_0.out HB.out)|(with_reducible refine Kd.C_alloc ?_ _)|(with_reducible refine Kd.C_drewN ?_ _)|(with_reducible refine Kd.C_drew ?_)));(case side2=>exact HC0_0.out);rintro e w20 ⟨rfl,hb⟩;refine ⟨_,rfl,?_⟩;replace HO_21:=Aside0.mk (Kd.R_below (by (with_reducible repeat (first|apply Kd.R_alloc|apply Kd.R_drewN|apply Kd.R_drew));exact HO_21.out) hb);replace BK380:=Aside0.mk (Qu (g:=gb380) (o:= .cells #[.slice (some ad381) l0_0.length c0_0] 26 (0,0)) (by (with_reducible repeat (first|refine Qg ?_ _|refine Qh ?_|refine Qf ?_ _));exact BK380.out) hb);replace HB:=Aside0.mk (Qj (by repeat (first|(with_reducible first|exact HB.out|apply Qc|apply Qa|apply Qd|refine Qe ?_ GE380.out)|exact HB.out)) hb);(try clear hb);(try clear hb2);(try clear hk);(try clear hi)))
      go_loopg [11,36] k1 (fun kq v11 v36 w'=> ∃ (x11_2:Int) (x36_2:Int),v11= .int .i64 x11_2∧v36= .int .i64 x36_2∧Aside0 (Q9.l1 kq l1 a3 x10_1 x11_2 t387 x36_2 l0_0=some (r1,r2))∧Aside0 (kq≤k1)∧Aside0 (w'.heap[gb380]? =some (.cells #[(.slice (some ad381) l0_0.length c0_0)] 26 (0,0)))∧Aside0 (Below w.heap.size w w'))
      case atStart=>exact ⟨(a2),(0),(by first|rfl|(simp;done)|(simp [*];done)),(by first|rfl|(simp;done)|(simp [*];done)),H',⟨Nat.le_refl _⟩,⟨by (with_reducible repeat (first|refine Qg ?_ _|refine Qh ?_|refine Qf ?_ _));exact BK380.out⟩,⟨by repeat (first|(with_reducible first|exact HB.out|apply Qc|apply Qa|apply Qd|refine Qe ?_ GE380.out)|exact HB.out)⟩⟩
      case round=>
       clear H'
       try clear c1
       try clear p2
       try clear p3
       try clear q3
       try clear hx3
       try clear c5
       try clear c5b0
       try clear c6
       try clear c6b0
       try clear p6
       try clear c8
       try clear c11
       try clear c12
       try clear c12b0
       try clear c13
       try clear c13b0
       try clear c14
       try clear c14b0
       try clear c15
       try clear c15b0
       try clear c16
       try clear c16b0
       try clear hcz19_0
       try clear hcz9_0
       try clear hfz19_0
       try clear hfz9_0
       try clear hx381_0
       try clear hx385_0
       try clear hx386_0
       try clear p2
       try clear p3
       try clear p381
       try clear p385
       try clear p386
       try clear q3
       try clear q381
       try clear q385
       try clear q386
       obtain ⟨x11_2,x36_2,rfl,rfl,HA,HK2,BK380,HB⟩:=hrel;cases gk with
       |zero=>exact absurd HA.out (by simp [Q9.l1])
       |succ k2=>
        have H:=HA.out;clear HA;simp only [Q9.l1] at H
        by_cases c21:x36_2<t387
        ·
         rw [if_pos c21] at H;have c21b0:decide (x36_2<t387)=true:=decide_eq_true c21;clear c21
         by_cases c22:0≤x36_2
         ·
          rw [if_pos c22] at H;have c22b0:decide (0≤x36_2)=true:=decide_eq_true c22;clear c22
          by_cases c23:x36_2<(l0_0.length:Int)
          ·
           rw [if_pos c23] at H;have c23b0:decide (x36_2<(l0_0.length:Int))=true:=decide_eq_true c23;clear c23;replace H:=Option.bind_eq_some_iff.mp H;obtain ⟨t389,A240,H⟩:=H;replace H:(if t389=true then (if x36_2<(l1.length:Int) then (Q9.l1 k2 l1 a3 x10_1 (mn x11_2 (rd l1 x36_2)) t387 (wrap64 (x36_2+1)) l0_0) else (none)) else (Q9.l1 k2 l1 a3 x10_1 x11_2 t387 (wrap64 (x36_2+1)) l0_0))=some (r1,r2):=H;have A24:=Aside0.mk A240;clear A240
           by_cases c25:t389=true
           ·
            subst c25;have H1:(if x36_2<(l1.length:Int) then (Q9.l1 k2 l1 a3 x10_1 (mn x11_2 (rd l1 x36_2)) t387 (wrap64 (x36_2+1)) l0_0) else (none))=some (r1,r2):=by rw [if_pos rfl] at H;exact H
            clear H;have H:=H1;clear H1
            by_cases c26:x36_2<(l1.length:Int)
            ·
             rw [if_pos c26] at H;have c26b0:decide (x36_2<(l1.length:Int))=true:=decide_eq_true c26;clear c26;obtain ⟨ji27,hji27⟩: ∃ j_:Int,(mn x11_2 (rd l1 x36_2))=j_:=⟨_,rfl⟩
             replace H:(Q9.l1 k2 l1 a3 x10_1 ji27 t387 (wrap64 (x36_2+1)) l0_0)=some (r1,r2):=by first|(rw [hji27] at H;exact H)|(simp only [hji27] at H ⊢;exact H)
             (try rw [hji27] at A24)
             have hji27_:(if (rd l1 x36_2)<x11_2 then (rd l1 x36_2) else x11_2)=ji27:=hji27;have H':=Aside0.mk H;clear H;have hcz28_0:wr.cell? ⟨gb380,0,none⟩=some (.slice (some ad381) l0_0.length c0_0):=(Qx BK380.out 0).trans rfl;have hfz28_0:=Qp BK380.out 0;have p388:0≤(x36_2:Int):=of_decide_eq_true (by first|(with_reducible assumption)|assumption);have q388:x36_2<(l0_0.length:Int):=of_decide_eq_true (by first|(with_reducible assumption)|assumption);obtain ⟨ad388,e388,hx388_0⟩:=Kd.at_int HR0_0.out x36_2 p388 q388;obtain rfl:ad381=ad388:=(by injection e388)
             replace hx388_0:=(HB.out.cell (World.block_lt_of_cell? w _ hx388_0)).trans hx388_0;replace p388:=eq_true p388;replace q388:=eq_true q388;go_wp2_with (first|((with_reducible refine Qk (f:=104) rfl ?_);refine Q6 (some 45) rfl rfl Try.func104 (by kernel_rfl) rfl #[.int .i64 (rd l0_0 x36_2), .int .i64 a3] rfl (by (try simp only [List.map_toArray,List.map_cons,List.map_nil]);first|done|rfl|(simp only [List.length_drop,List.length_take];rfl)) ?_;(with_reducible refine (Qdi.calls (rd l0_0 x36_2) a3 true _ A24.out).mono ?_);rintro e w' ⟨rfl,⟨nd,rfl⟩⟩;refine ⟨_,rfl,?_⟩;have p390:0≤(x36_2:Int):=of_decide_eq_true (by first|(with_reducible assumption)|assumption);have q390:x36_2<(l1.length:Int):=of_decide_eq_true (by first|(with_reducible assumption)|assumption);obtain ⟨ad390,e390,hx390_0⟩:=Kd.at_int HR1.out x36_2 p390 q390;cases e390;replace hx390_0:=(HB.out.cell (World.block_lt_of_cell? w _ hx390_0)).trans hx390_0;replace p390:=eq_true p390;replace q390:=eq_true q390));go_roundg k2
             case measure=>have:=HK1.out;have:=HK2.out;omega
             case rel=>exact ⟨(ji27),(wrap64 (x36_2+1)),(by first|rfl|(simp;done)|(simp only [←hji27] <;>(first|rfl|simp))|(simp [*];done)),(by first|rfl|(simp;done)|(simp [*];done)),H',⟨by have:=HK1.out;have:=HK2.out;omega⟩,⟨by (with_reducible repeat (first|refine Qg ?_ _|refine Qh ?_|refine Qf ?_ _));exact BK380.out⟩,⟨by repeat (first|(with_reducible first|exact HB.out|apply Qc|apply Qa|apply Qd|refine Qe ?_ GE380.out)|exact HB.out)⟩⟩
            ·
             rw [if_neg c26] at H;exact absurd H (by simp)
           ·
            replace c25:=Bool.eq_false_iff.mpr c25;subst c25;have H1:(Q9.l1 k2 l1 a3 x10_1 x11_2 t387 (wrap64 (x36_2+1)) l0_0)=some (r1,r2):=by rw [if_neg (show ¬ (false=true) by decide)] at H;exact H
            clear H;have H:=H1;clear H1;have H':=Aside0.mk H;clear H;have hcz29_0:wr.cell? ⟨gb380,0,none⟩=some (.slice (some ad381) l0_0.length c0_0):=(Qx BK380.out 0).trans rfl;have hfz29_0:=Qp BK380.out 0;have p388:0≤(x36_2:Int):=of_decide_eq_true (by first|(with_reducible assumption)|assumption);have q388:x36_2<(l0_0.length:Int):=of_decide_eq_true (by first|(with_reducible assumption)|assumption);obtain ⟨ad388,e388,hx388_0⟩:=Kd.at_int HR0_0.out x36_2 p388 q388;obtain rfl:ad381=ad388:=(by injection e388)
            replace hx388_0:=(HB.out.cell (World.block_lt_of_cell? w _ hx388_0)).trans hx388_0;replace p388:=eq_true p388;replace q388:=eq_true q388;go_wp2_with (first|((with_reducible refine Qk (f:=104) rfl ?_);refine Q6 (some 45) rfl rfl Try.func104 (by kernel_rfl) rfl #[.int .i64 (rd l0_0 x36_2), .int .i64 a3] rfl (by (try simp only [List.map_toArray,List.map_cons,List.map_nil]);first|done|rfl|(simp only [List.length_drop,List.length_take];rfl)) ?_;(with_reducible refine (Qdi.calls (rd l0_0 x36_2) a3 false _ A24.out).mono ?_);rintro e w' ⟨rfl,⟨nd,rfl⟩⟩;refine ⟨_,rfl,?_⟩));go_roundg k2
            case measure=>have:=HK1.out;have:=HK2.out;omega
            case rel=>exact ⟨(x11_2),(wrap64 (x36_2+1)),(by first|rfl|(simp;done)|(simp [*];done)),(by first|rfl|(simp;done)|(simp [*];done)),H',⟨by have:=HK1.out;have:=HK2.out;omega⟩,⟨by (with_reducible repeat (first|refine Qg ?_ _|refine Qh ?_|refine Qf ?_ _));exact BK380.out⟩,⟨by repeat (first|(with_reducible first|exact HB.out|apply Qc|apply Qa|apply Qd|refine Qe ?_ GE380.out)|exact HB.out)⟩⟩
          ·
           rw [if_neg c23] at H;exact absurd H (by simp)
         ·
          rw [if_neg c22] at H;exact absurd H (by simp)
        ·
         rw [if_neg c21] at H;have c21b0:decide (x36_2<t387)=false:=decide_eq_false c21;clear c21;simp only [Option.some.injEq,Prod.mk.injEq] at H;obtain ⟨rfl,rfl⟩:=H;go_wp2
         go_ret2
         exact ⟨by first|rfl|(simp [Qm,Ql] <;>rfl)|(simp [*,Qm,Ql] <;>rfl),by repeat (first|(with_reducible first|exact HB.out|apply Qc|apply Qa|apply Qd|refine Qe ?_ GE380.out)|exact HB.out)⟩
  ·
   rw [if_neg c6] at H;exact absurd H (by simp)
 ·
  rw [if_neg c5] at H;exact absurd H (by simp)
def Qbh.l0 : Nat → List Int → Int → List Int → Int → Int → List Int → Option (List Int)
 |0,_,_,_,_,_,_=>none
 |k+1,x1,x2,x12,x13,x14,x392000=>if x14<x13 then (if 0≤x14 then (if x14<(x12.length:Int) then ((Q9.f k x392000 x1 x2 (rd x12 x14)).bind fun bt393=>(if 0≤(rd x12 x14) then (if (rd x12 x14)<(x1.length:Int) then (Qbh.l0 k (x1.set ((rd x12 x14):Int).toNat (wrap64 ((wrap64 (bt393.1+bt393.2)) - (rd x1 (rd x12 x14))))) x2 x12 x13 (wrap64 (x14+1)) x392000) else (none)) else (none))) else (none)) else (none)) else (some x1)
def Qbh.f (k : Nat) (l0_0 : List Int) (l1 : List Int) (a2 : Int) (l3 : List Int) : Option (List Int) := Qbh.l0 k l1 a2 l3 (l3.length : Int) 0 l0_0
theorem Qbh.mono_l : ∀ k, (∀ y0 y1 y2 y3 y4 y5, LeO (Qbh.l0 k y0 y1 y2 y3 y4 y5) (Qbh.l0 (k + 1) y0 y1 y2 y3 y4 y5))
 |0=>fun _ _ _ _ _ _ r h=>by simp [Qbh.l0] at h
 |k+1=>by
  have ih0:=Qbh.mono_l k
  ·
   intro y0 y1 y2 y3 y4 y5;unfold Qbh.l0
   repeat' first
   |(with_reducible exact ih0 _ _ _ _ _ _)
   |(with_reducible exact Q9.mono _ _ _ _ _)
   |(with_reducible exact LeO.refl _)
   |(with_reducible exact LeO.none _)
   |(with_reducible refine LeO.ite ?_ ?_)
   |(with_reducible refine LeO.bind ?_ (fun _=> ?_))
   |exact ih0 _ _ _ _ _ _
   |exact Q9.mono _ _ _ _ _
   |exact LeO.none _
   |refine LeO.ite ?_ ?_
   |refine LeO.bind ?_ (fun _=> ?_)
theorem Qbh.mono : ∀ a0 a1 a2 a3 k, LeO (Qbh.f k a0 a1 a2 a3) (Qbh.f (k + 1) a0 a1 a2 a3) := by
 intro a0 a1 a2 a3 k;have ih0:=Qbh.mono_l k;unfold Qbh.f
 repeat' first
  |(with_reducible exact ih0 _ _ _ _ _ _)
  |(with_reducible exact Q9.mono _ _ _ _ _)
  |(with_reducible exact LeO.refl _)
  |(with_reducible exact LeO.none _)
  |(with_reducible refine LeO.ite ?_ ?_)
  |(with_reducible refine LeO.bind ?_ (fun _=> ?_))
  |exact ih0 _ _ _ _ _ _
  |exact Q9.mono _ _ _ _ _
  |exact LeO.none _
  |refine LeO.ite ?_ ?_
  |refine LeO.bind ?_ (fun _=> ?_)
set_option maxHeartbeats 8000000 in
set_option maxRecDepth 100000 in
theorem Qbh.calls (k : Nat) (A0_0 : Option Addr) (c0_0 : Nat) (l0_0 : List Int) (P1_ : Nat → Prop) (u9000_ : Value) (l1 : List Int) (a2 : Int) (A3 : Option Addr) (c3 : Nat) (l3 : List Int) (r : List Int) (w0 w : World) (hB : Below w0.heap.size w0 w) (hr0_0 : ∀ W_, Kept w W_ (fun k_ => P1_ k_) → Kd.C (Kd.int .i64) W_ A0_0 l0_0.length l0_0) (hc0_0 : l0_0.length ≤ c0_0) (ho1 : Kd.R (Kd.int .i64) 3 w w0.heap.size P1_ u9000_ l1) (hr3 : ∀ W_, Kept w W_ (fun k_ => P1_ k_) → Kd.C (Kd.int .i64) W_ A3 l3.length l3) (hc3 : l3.length ≤ c3) (h : Qbh.f k l0_0 l1 a2 l3 = some r) :
 Calls Try.prog 68 #[.agg #[.slice A0_0 l0_0.length c0_0],u9000_, .int .i64 a2, .slice A3 l3.length c3] w fun e w'=>e= .returned (.tuple #[])∧Kd.R (Kd.int .i64) 3 w' w0.heap.size (fun k_=>(P1_ k_∨w.heap.size≤k_)) u9000_ r∧Below w0.heap.size w0 w'∧Kept w w' (fun k_=>P1_ k_):=by
 have hu26:=Try.underlying26;have HR0_0:=Aside0.mk hr0_0;have HC0_0:=Aside0.mk hc0_0;clear hr0_0 hc0_0;have HO1:=Aside0.mk (show Kd.R (Kd.int .i64) 3 w w0.heap.size (fun k_=>(P1_ k_∨w.heap.size≤k_)) u9000_ l1 from Kd.R_mono ho1 (fun k_ hk=>(.inl hk)));have HR3:=Aside0.mk hr3;have HC3:=Aside0.mk hc3;clear hr3 hc3;have HK:=Aside0.mk (Kept.refl w (fun k_=>P1_ k_));have HW0:=Aside0.mk hB.size;have HB:=Aside0.mk hB;clear hB;have H:(Qbh.l0 k l1 a2 l3 (l3.length:Int) 0 l0_0)=some r:=h;clear h;have H':=Aside0.mk H;clear H;go_enter Try.func68,Try.ntmps68;go_wp2_with (first|((with_reducible refine Qbb (N:=4) rfl ?_);refine Qbg ?hg (N:=4) ?hd (cs:= #[.slice A0_0 l0_0.length c0_0]) (t:=26) ?hr ?_;(case hd=>rfl);(case hg=>rfl);(case hr=>first|(go_simp;done)|(go_simp;rfl));intro gb391 hg w5 hbox hb;replace HO1:=Aside0.mk (Kd.R_below (by (with_reducible repeat (first|apply Kd.R_alloc|apply Kd.R_drewN|apply Kd.R_drew));exact HO1.out) hb);have BK391:=Aside0.mk (hbox);have GW391:=Aside0.mk ((by rw [hg];exact (by first|exact HK.out.1|exact (show Kept w _ (fun k_=>P1_ k_) from by repeat (first|(with_reducible first|exact HK.out|apply Kept.alloc|apply Kept.drewN|apply Kept.drew)|exact HK.out)).1):w.heap.size≤gb391));replace HK:=Aside0.mk (Kept.below (S:=(fun k_=>P1_ k_)) (by repeat (first|(with_reducible first|exact HK.out|apply Kept.alloc|apply Kept.drewN|apply Kept.drew)|exact HK.out)) hb);have GE391:=Aside0.mk ((by rw [hg];exact (Qq (by repeat (first|(with_reducible first|exact HB.out|apply Qc|apply Qa|apply Qd)|exact HB.out))):w0.heap.size≤gb391));replace HB:=Aside0.mk (Qj (by repeat (first|(with_reducible first|exact HB.out|apply Qc|apply Qa|apply Qd)|exact HB.out)) hb);clear hb hbox hg))
 go_loopg [14] k (fun kq v14 w'=> ∃ (x1_1:List Int) (x14_1:Int),v14= .int .i64 x14_1∧Aside0 (Qbh.l0 kq x1_1 a2 l3 (l3.length:Int) x14_1 l0_0=some r)∧Aside0 (kq≤k)∧Aside0 (Kd.R (Kd.int .i64) 3 w' w0.heap.size (fun k_=>(P1_ k_∨w.heap.size≤k_)) u9000_ x1_1)∧Aside0 (w'.heap[gb391]? =some (.cells #[(.slice A0_0 l0_0.length c0_0)] 26 (0,0)))∧Aside0 (Kept w w' (fun k_=>P1_ k_))∧Aside0 (Below w0.heap.size w0 w'))
 case atStart=>exact ⟨(l1),(0),(by first|rfl|(simp;done)|(simp [*];done)),H',⟨Nat.le_refl _⟩,⟨by (with_reducible repeat (first|apply Kd.R_alloc|apply Kd.R_drewN|apply Kd.R_drew));exact HO1.out⟩,⟨by (with_reducible repeat (first|refine Qg ?_ _|refine Qh ?_|refine Qf ?_ _));exact BK391.out⟩,⟨by repeat (first|(with_reducible first|exact HK.out|apply Kept.alloc|apply Kept.drewN|apply Kept.drew|refine Kept.setCell ?_ (.inr GW391.out) _)|exact HK.out)⟩,⟨by repeat (first|(with_reducible first|exact HB.out|apply Qc|apply Qa|apply Qd|refine Qe ?_ GE391.out)|exact HB.out)⟩⟩
 case round=>
  clear H'
  try clear p2
  try clear c3
  obtain ⟨x1_1,x14_1,rfl,HA,HK1,HO_1,BK391,HK,HB⟩:=hrel;cases gk with
  |zero=>exact absurd HA.out (by simp [Qbh.l0])
  |succ k1=>
   have H:=HA.out;clear HA;simp only [Qbh.l0] at H
   by_cases c6:x14_1<(l3.length:Int)
   ·
    rw [if_pos c6] at H;have c6b0:decide (x14_1<(l3.length:Int))=true:=decide_eq_true c6;clear c6
    by_cases c7:0≤x14_1
    ·
     rw [if_pos c7] at H;have c7b0:decide (0≤x14_1)=true:=decide_eq_true c7;clear c7
     by_cases c8:x14_1<(l3.length:Int)
     ·
      rw [if_pos c8] at H;have c8b0:decide (x14_1<(l3.length:Int))=true:=decide_eq_true c8;clear c8;replace H:=Option.bind_eq_some_iff.mp H;obtain ⟨⟨t393,t394⟩,A90,H⟩:=H;replace H:(if 0≤(rd l3 x14_1) then (if (rd l3 x14_1)<(x1_1.length:Int) then (Qbh.l0 k1 (x1_1.set ((rd l3 x14_1):Int).toNat (wrap64 ((wrap64 (t393+t394)) - (rd x1_1 (rd l3 x14_1))))) a2 l3 (l3.length:Int) (wrap64 (x14_1+1)) l0_0) else (none)) else (none))=some r:=H;have A9:=Aside0.mk A90;clear A90
      by_cases c10:0≤(rd l3 x14_1)
      ·
       rw [if_pos c10] at H;have c10b0:decide (0≤(rd l3 x14_1))=true:=decide_eq_true c10;clear c10
       by_cases c11:(rd l3 x14_1)<(x1_1.length:Int)
       ·
        rw [if_pos c11] at H;have c11b0:decide ((rd l3 x14_1)<(x1_1.length:Int))=true:=decide_eq_true c11;clear c11;obtain ⟨y396,hy396⟩: ∃ y_:List Int,y_=(x1_1.set ((rd l3 x14_1):Int).toNat (wrap64 ((wrap64 (t393+t394)) - (rd x1_1 (rd l3 x14_1))))):=⟨_,rfl⟩
        replace H:(Qbh.l0 k1 y396 a2 l3 (l3.length:Int) (wrap64 (x14_1+1)) l0_0)=some r:=by first|(rw [hy396];with_reducible exact H)|(have H2_:=(Option.bind_some _ _).symm.trans H;rw [hy396];with_reducible exact H2_)|(have H2_:=(Option.bind_some _ _).symm.trans H;with_reducible exact H2_)|with_reducible exact H|(rw [hy396];exact H)|exact H
        have Ny396:=Aside0.mk hy396;clear hy396;have H':=Aside0.mk H;clear H;have p392:0≤(x14_1:Int):=of_decide_eq_true (by first|(with_reducible assumption)|assumption);have q392:x14_1<(l3.length:Int):=of_decide_eq_true (by first|(with_reducible assumption)|assumption);obtain ⟨ad392,e392,hx392_0⟩:=Kd.at_int (Kd.C_kept_now HR3.out HK.out) x14_1 p392 q392;cases e392;replace p392:=eq_true p392;replace q392:=eq_true q392;have hcz13_0:wr.cell? ⟨gb391,0,none⟩=some (.slice A0_0 l0_0.length c0_0):=(Qx BK391.out 0).trans rfl;have hfz13_0:=Qp BK391.out 0;obtain ⟨Ao14,co14,eo14⟩:=Kd.R_slice HO_1.out;subst eo14;go_wp2_with (first|((with_reducible refine Qk (f:=82) rfl ?_);refine Q6 (some 23) rfl rfl Try.func82 (by kernel_rfl) rfl #[.agg #[.slice A0_0 l0_0.length c0_0], .slice Ao14 x1_1.length co14, .int .i64 a2, .int .i64 (rd l3 x14_1)] rfl (by (try simp only [List.map_toArray,List.map_cons,List.map_nil]);first|done|rfl|(simp only [List.length_drop,List.length_take];rfl)) ?_;(with_reducible refine (Q9.calls k1 _ _ l0_0 _ _ x1_1 a2 (rd l3 x14_1) t393 t394 _ ?side1 ?side2 ?side3 ?side4 A9.out).mono ?_);(case side1=>exact Kd.C_kept_now HR0_0.out (by repeat (first|(with_reducible first|exact HK.out|apply Kept.alloc|apply Kept.drewN|apply Kept.drew|refine Kept.setCell ?_ (.inr GW391.out) _)|exact HK.out)));(case side2=>exact HC0_0.out);(case side3=>repeat (first|exact (Kd.R_reads' HO_1.out).2.2|(with_reducible refine Kd.C_alloc ?_ _)|(with_reducible refine Kd.C_drewN ?_ _)|(with_reducible refine Kd.C_drew ?_)));(case side4=>exact (Kd.R_reads' HO_1.out).2.1);rintro e w15 ⟨rfl,hb⟩;refine ⟨_,rfl,?_⟩;replace HO_1:=Aside0.mk (Kd.R_below (by (with_reducible repeat (first|apply Kd.R_alloc|apply Kd.R_drewN|apply Kd.R_drew));exact HO_1.out) hb);replace BK391:=Aside0.mk (Qu (g:=gb391) (o:= .cells #[.slice A0_0 l0_0.length c0_0] 26 (0,0)) (by (with_reducible repeat (first|refine Qg ?_ _|refine Qh ?_|refine Qf ?_ _));exact BK391.out) hb);replace HK:=Aside0.mk (Kept.below (S:=(fun k_=>P1_ k_)) (by repeat (first|(with_reducible first|exact HK.out|apply Kept.alloc|apply Kept.drewN|apply Kept.drew|refine Kept.setCell ?_ (.inr GW391.out) _)|exact HK.out)) hb);replace HB:=Aside0.mk (Qj (by repeat (first|(with_reducible first|exact HB.out|apply Qc|apply Qa|apply Qd|refine Qe ?_ GE391.out)|exact HB.out)) hb);(try clear hb);(try clear hb2);(try clear hk);(try clear hi);have p395:0≤((rd l3 x14_1):Int):=of_decide_eq_true (by first|(with_reducible assumption)|assumption);have q395:(rd l3 x14_1)<(x1_1.length:Int):=of_decide_eq_true (by first|(with_reducible assumption)|assumption);obtain ⟨ad395,e395,hx395_0⟩:=Kd.at_int (Kd.R_reads' HO_1.out).2.2 (rd l3 x14_1) p395 q395;cases e395;replace p395:=eq_true p395;replace q395:=eq_true q395;have p12:0≤((rd l3 x14_1):Int):=of_decide_eq_true (by first|(with_reducible assumption)|assumption);have q12:((rd l3 x14_1):Int)<((x1_1.length:Int):Int):=of_decide_eq_true (by first|(with_reducible assumption)|assumption);obtain ⟨go12,co12,eo12,gb12,gl12,cl12,HG12⟩:=Kd.R_form HO_1.out (by omega);(first|cases eo12|(injection eo12 with ea_ en_ ec_;(first|subst ea_|(injection ea_ with ea_;subst ea_));subst ec_;clear en_));have GB12:=Aside0.mk gb12;have GG12:=Aside0.mk HG12;clear gb12 gl12 HG12;have HMgo12:=Aside0.mk (show (P1_ go12∨w.heap.size≤go12) from (HO_1.out.1 _ rfl));(first|simp only [Qd3] at hx395_0|skip);obtain ⟨hx12_0,hf12_0⟩:=Kd.R_celln 0 HO_1.out ((rd l3 x14_1):Int) p12 q12;replace p12:=eq_true p12;replace q12:=eq_true q12;obtain ⟨hy16_,hz16_⟩:=Kd.R_celln 0 HO_1.out ((rd l3 x14_1):Int) (of_decide_eq_true (by first|(with_reducible assumption)|assumption)) (of_decide_eq_true (by first|(with_reducible assumption)|assumption));have HP16:=Kd.R_putg HO_1.out ((rd l3 x14_1):Int) (wrap64 ((wrap64 (t393+t394)) - (rd x1_1 (rd l3 x14_1)))))|((with_reducible refine Qgg (t:=3) (p:=36) rfl ?_);refine Qfu (t:=3) (p:=36) (v:= ?vo_w17) (w1:=(w15.setCell ⟨go12,((rd l3 x14_1):Int).toNat,none⟩ (.int .i64 (wrap64 ((wrap64 (t393+t394)) - (rd x1_1 (rd l3 x14_1))))))) ?hg ?ho ?hn ?hr ?_;(case ho=>rfl);(case hg=>rfl);(case hn=>rfl);(case hr=>first|(go_simp;done)|(go_simp;rfl));intro w17 hw;have hg:w15.grownBy w17 (some go12):=(by rw [hw];exact HP16.2);have hp_:Kd.R (Kd.int .i64) 3 w17 w0.heap.size (fun k_=>(P1_ k_∨w.heap.size≤k_)) (.slice (some ⟨go12,0,none⟩) x1_1.length co14) y396:=(by rw [hw,Ny396.out];exact HP16.1);clear HP16;replace BK391:=Aside0.mk (Qcx (g:=gb391) (o:= .cells #[.slice A0_0 l0_0.length c0_0] 26 (0,0)) (by (with_reducible repeat (first|refine Qg ?_ _|refine Qh ?_|refine Qf ?_ _));exact BK391.out) hg (Kd.R_ne HO_1.out BK391.out (by decide)));replace HB:=Aside0.mk ((by rw [hw];exact Qe (HB.out) GB12.out:Below w0.heap.size w0 w17));replace HK:=Aside0.mk (Kept.of_grown (S:=(fun k_=>P1_ k_)) hg (by repeat (first|(with_reducible first|exact HK.out|apply Kept.alloc|apply Kept.drewN|apply Kept.drew|refine Kept.setCell ?_ (.inr GW391.out) _)|exact HK.out)) (fun k_ e_=>(HO_1.out.1 k_ e_)));replace HO_1:=Aside0.mk (hp_);clear hg hw hp_));go_roundg k1
        case measure=>have:=HK1.out;omega
        case rel=>exact ⟨(y396),(wrap64 (x14_1+1)),(by first|rfl|(simp;done)|(simp [*];done)),H',⟨by have:=HK1.out;omega⟩,⟨by (with_reducible repeat (first|apply Kd.R_alloc|apply Kd.R_drewN|apply Kd.R_drew));exact HO_1.out⟩,⟨by (with_reducible repeat (first|refine Qg ?_ _|refine Qh ?_|refine Qf ?_ _));exact BK391.out⟩,⟨by repeat (first|(with_reducible first|exact HK.out|apply Kept.alloc|apply Kept.drewN|apply Kept.drew|refine Kept.setCell ?_ (.inr GW391.out) _)|exact HK.out)⟩,⟨by repeat (first|(with_reducible first|exact HB.out|apply Qc|apply Qa|apply Qd|refine Qe ?_ GE391.out)|exact HB.out)⟩⟩
       ·
        rw [if_neg c11] at H;exact absurd H (by simp)
      ·
       rw [if_neg c10] at H;exact absurd H (by simp)
     ·
      rw [if_neg c8] at H;exact absurd H (by simp)
    ·
     rw [if_neg c7] at H;exact absurd H (by simp)
   ·
    rw [if_neg c6] at H;have c6b0:decide (x14_1<(l3.length:Int))=false:=decide_eq_false c6;clear c6;obtain rfl:=Option.some.inj H;go_wp2
    first|go_end0|((try simp only [Exit.inBlock,Exit.then]);refine bodyPost_ret (results_none rfl _ _ _) rfl ?_)
    exact ⟨by first|rfl|(simp [Qm,Ql] <;>rfl)|(simp [*,Qm,Ql] <;>rfl),by (with_reducible repeat (first|apply Kd.R_alloc|apply Kd.R_drewN|apply Kd.R_drew));exact HO_1.out,by repeat (first|(with_reducible first|exact HB.out|apply Qc|apply Qa|apply Qd|refine Qe ?_ GE391.out)|exact HB.out),by repeat (first|(with_reducible first|exact HK.out|apply Kept.alloc|apply Kept.drewN|apply Kept.drew|refine Kept.setCell ?_ (.inr GW391.out) _)|exact HK.out)⟩
mutual
def Q7.l0 : Nat → List Int → Int → List (List Int) → List Int → List Int → List Int → Option ((List (List Int)) × Bool)
 |0,_,_,_,_,_,_=>none
 |k+1,x1,x2,x8,x9,x10,x398000=>if (x8.length:Int)=0 then (Q7.j1 k x1 x2 x8 x9 x10 true x398000) else ((Qbq.f k x10 x1).bind fun t412=>(Q7.j1 k x1 x2 x8 x9 x10 (!t412) x398000))
def Q7.j1 : Nat → List Int → Int → List (List Int) → List Int → List Int → Bool → List Int → Option ((List (List Int)) × Bool)
 |0,_,_,_,_,_,_,_=>none
 |k+1,x1,x2,x8,x9,x10,x31,x398000=>if x31=true then (if (x8.length:Int)=1000 then (some (([] :List (List Int)),false)) else ((Qb5.f x10).bind fun t413=>(if x8.length<5864062014805 then ((Qbh.f k x398000 x10 x2 x9).bind fun t419=>(Q7.l0 k x1 x2 (x8++ [t413]) x9 t419 x398000)) else (none)))) else (some (x8,true))
end
def Q7.f (k : Nat) (l0_0 : List Int) (l1 : List Int) (a2 : Int) : Option ((List (List Int)) × Bool) := (Qb9.f k l0_0 l1 a2).bind fun t398 => (if t398 = true then ((Qch.f l0_0).bind fun t402 => ((Qbn.f k t402).bind fun t403 => ((Qb6.f k t403).bind fun t406 => ((Qb5.f l1).bind fun t409 => (Q7.l0 k l1 a2 (([] : List (List Int))) t406 t409 l0_0))))) else (some (([] : List (List Int)), false)))
theorem Q7.mono_l : ∀ k, (∀ y0 y1 y2 y3 y4 y5, LeO (Q7.l0 k y0 y1 y2 y3 y4 y5) (Q7.l0 (k + 1) y0 y1 y2 y3 y4 y5)) ∧ (∀ y0 y1 y2 y3 y4 y5 y6, LeO (Q7.j1 k y0 y1 y2 y3 y4 y5 y6) (Q7.j1 (k + 1) y0 y1 y2 y3 y4 y5 y6))
 |0=>⟨fun _ _ _ _ _ _ r h=>by simp [Q7.l0] at h,fun _ _ _ _ _ _ _ r h=>by simp [Q7.j1] at h⟩
 |k+1=>by
  obtain ⟨ih0,ih1⟩:=Q7.mono_l k;refine ⟨?_,?_⟩
  ·
   intro y0 y1 y2 y3 y4 y5;unfold Q7.l0
   repeat' first
   |(with_reducible exact ih0 _ _ _ _ _ _)
   |(with_reducible exact ih1 _ _ _ _ _ _ _)
   |(with_reducible exact Qbh.mono _ _ _ _ _)
   |(with_reducible exact Qb6.mono _ _)
   |(with_reducible exact Qb9.mono _ _ _ _)
   |(with_reducible exact Qbn.mono _ _)
   |(with_reducible exact Qbq.mono _ _ _)
   |(with_reducible exact LeO.refl _)
   |(with_reducible exact LeO.none _)
   |(with_reducible refine LeO.ite ?_ ?_)
   |(with_reducible refine LeO.bind ?_ (fun _=> ?_))
   |exact ih0 _ _ _ _ _ _
   |exact ih1 _ _ _ _ _ _ _
   |exact Qbh.mono _ _ _ _ _
   |exact Qb6.mono _ _
   |exact Qb9.mono _ _ _ _
   |exact Qbn.mono _ _
   |exact Qbq.mono _ _ _
   |exact LeO.none _
   |refine LeO.ite ?_ ?_
   |refine LeO.bind ?_ (fun _=> ?_)
  ·
   intro y0 y1 y2 y3 y4 y5 y6;unfold Q7.j1
   repeat' first
   |(with_reducible exact ih0 _ _ _ _ _ _)
   |(with_reducible exact ih1 _ _ _ _ _ _ _)
   |(with_reducible exact Qbh.mono _ _ _ _ _)
   |(with_reducible exact Qb6.mono _ _)
   |(with_reducible exact Qb9.mono _ _ _ _)
   |(with_reducible exact Qbn.mono _ _)
   |(with_reducible exact Qbq.mono _ _ _)
   |(with_reducible exact LeO.refl _)
   |(with_reducible exact LeO.none _)
   |(with_reducible refine LeO.ite ?_ ?_)
   |(with_reducible refine LeO.bind ?_ (fun _=> ?_))
   |exact ih0 _ _ _ _ _ _
   |exact ih1 _ _ _ _ _ _ _
   |exact Qbh.mono _ _ _ _ _
   |exact Qb6.mono _ _
   |exact Qb9.mono _ _ _ _
   |exact Qbn.mono _ _
   |exact Qbq.mono _ _ _
   |exact LeO.none _
   |refine LeO.ite ?_ ?_
   |refine LeO.bind ?_ (fun _=> ?_)
theorem Q7.mono : ∀ a0 a1 a2 k, LeO (Q7.f k a0 a1 a2) (Q7.f (k + 1) a0 a1 a2) := by
 intro a0 a1 a2 k;obtain ⟨ih0,ih1⟩:=Q7.mono_l k;unfold Q7.f
 repeat' first
  |(with_reducible exact ih0 _ _ _ _ _ _)
  |(with_reducible exact ih1 _ _ _ _ _ _ _)
  |(with_reducible exact Qbh.mono _ _ _ _ _)
  |(with_reducible exact Qb6.mono _ _)
  |(with_reducible exact Qb9.mono _ _ _ _)
  |(with_reducible exact Qbn.mono _ _)
  |(with_reducible exact Qbq.mono _ _ _)
  |(with_reducible exact LeO.refl _)
  |(with_reducible exact LeO.none _)
  |(with_reducible refine LeO.ite ?_ ?_)
  |(with_reducible refine LeO.bind ?_ (fun _=> ?_))
  |exact ih0 _ _ _ _ _ _
  |exact ih1 _ _ _ _ _ _ _
  |exact Qbh.mono _ _ _ _ _
  |exact Qb6.mono _ _
  |exact Qb9.mono _ _ _ _
  |exact Qbn.mono _ _
  |exact Qbq.mono _ _ _
  |exact LeO.none _
  |refine LeO.ite ?_ ?_
  |refine LeO.bind ?_ (fun _=> ?_)
set_option maxHeartbeats 8000000 in
set_option maxRecDepth 100000 in
theorem Q7.calls (k : Nat) (A0_0 : Option Addr) (c0_0 : Nat) (l0_0 : List Int) (A1 : Option Addr) (c1 : Nat) (l1 : List Int) (a2 : Int) (r1 : List (List Int)) (r2 : Bool) (w : World) (hr0_0 : Kd.C (Kd.int .i64) w A0_0 l0_0.length l0_0) (hc0_0 : l0_0.length ≤ c0_0) (hr1 : Kd.C (Kd.int .i64) w A1 l1.length l1) (hc1 : l1.length ≤ c1) (h : Q7.f k l0_0 l1 a2 = some (r1, r2)) :
 Calls Try.prog 8 #[.agg #[.slice A0_0 l0_0.length c0_0], .slice A1 l1.length c1, .int .i64 a2] w fun e w'=> ∃ v0_:Value,e= .returned (.tuple #[v0_, .bool r2])∧Kd.S (Kd.slice 3 (Kd.int .i64)) 24 w' w.heap.size (fun _=>True) v0_ r1∧Below w.heap.size w w':=by
 have hu26:=Try.underlying26;have HR0_0:=Aside0.mk hr0_0;have HC0_0:=Aside0.mk hc0_0;clear hr0_0 hc0_0;have HR1:=Aside0.mk hr1;have HC1:=Aside0.mk hc1;clear hr1 hc1;have HB:=Aside0.mk (Below.refl w.heap.size w);have H:((Qb9.f k l0_0 l1 a2).bind fun t398=>(if t398=true then ((Qch.f l0_0).bind fun t402=>((Qbn.f k t402).bind fun t403=>((Qb6.f k t403).bind fun t406=>((Qb5.f l1).bind fun t409=>(Q7.l0 k l1 a2 (([] :List (List Int))) t406 t409 l0_0))))) else (some (([] :List (List Int)),false))))=some (r1,r2):=h;clear h;replace H:=Option.bind_eq_some_iff.mp H;obtain ⟨t398,A40,H⟩:=H;replace H:(if t398=true then ((Qch.f l0_0).bind fun t402=>((Qbn.f k t402).bind fun t403=>((Qb6.f k t403).bind fun t406=>((Qb5.f l1).bind fun t409=>(Q7.l0 k l1 a2 (([] :List (List Int))) t406 t409 l0_0))))) else (some (([] :List (List Int)),false)))=some (r1,r2):=H;have A4:=Aside0.mk A40;clear A40
 by_cases c5:t398=true
 ·
  subst c5;have H1:((Qch.f l0_0).bind fun t402=>((Qbn.f k t402).bind fun t403=>((Qb6.f k t403).bind fun t406=>((Qb5.f l1).bind fun t409=>(Q7.l0 k l1 a2 (([] :List (List Int))) t406 t409 l0_0)))))=some (r1,r2):=by rw [if_pos rfl] at H;exact H
  clear H;have H:=H1;clear H1;obtain ⟨y399,hy399⟩: ∃ y_:List (List Int),y_=(([] :List (List Int))):=⟨_,rfl⟩
  replace H:((Qch.f l0_0).bind fun t402=>((Qbn.f k t402).bind fun t403=>((Qb6.f k t403).bind fun t406=>((Qb5.f l1).bind fun t409=>(Q7.l0 k l1 a2 y399 t406 t409 l0_0)))))=some (r1,r2):=by first|(rw [hy399];with_reducible exact H)|(have H2_:=(Option.bind_some _ _).symm.trans H;rw [hy399];with_reducible exact H2_)|(have H2_:=(Option.bind_some _ _).symm.trans H;with_reducible exact H2_)|with_reducible exact H|(rw [hy399];exact H)|exact H
  have Ny399:=Aside0.mk hy399;clear hy399;replace H:=Option.bind_eq_some_iff.mp H;obtain ⟨t402,A60,H⟩:=H;replace H:((Qbn.f k t402).bind fun t403=>((Qb6.f k t403).bind fun t406=>((Qb5.f l1).bind fun t409=>(Q7.l0 k l1 a2 y399 t406 t409 l0_0))))=some (r1,r2):=H;have A6:=Aside0.mk A60;clear A60;replace H:=Option.bind_eq_some_iff.mp H;obtain ⟨t403,A70,H⟩:=H;replace H:((Qb6.f k t403).bind fun t406=>((Qb5.f l1).bind fun t409=>(Q7.l0 k l1 a2 y399 t406 t409 l0_0)))=some (r1,r2):=H;have A7:=Aside0.mk A70;clear A70;replace H:=Option.bind_eq_some_iff.mp H;obtain ⟨t406,A80,H⟩:=H;replace H:((Qb5.f l1).bind fun t409=>(Q7.l0 k l1 a2 y399 t406 t409 l0_0))=some (r1,r2):=H;have A8:=Aside0.mk A80;clear A80;replace H:=Option.bind_eq_some_iff.mp H;obtain ⟨t409,A90,H⟩:=H;replace H:(Q7.l0 k l1 a2 y399 t406 t409 l0_0)=some (r1,r2):=H;have A9:=Aside0.mk A90;clear A90;have H':=Aside0.mk H;clear H;go_enter Try.func8,Try.ntmps8;go_wp2_with (first|((with_reducible refine Qbb (N:=3) rfl ?_);refine Qbg ?hg (N:=3) ?hd (cs:= #[.slice A0_0 l0_0.length c0_0]) (t:=26) ?hr ?_;(case hd=>rfl);(case hg=>rfl);(case hr=>first|(go_simp;done)|(go_simp;rfl));intro gb397 hg w10 hbox hb;have BK397:=Aside0.mk (hbox);have GW397:=Aside0.mk ((by rw [hg];exact (Qq (by repeat (first|(with_reducible first|exact HB.out|apply Qc|apply Qa|apply Qd)|exact HB.out))):w.heap.size≤gb397));have GE397:=GW397;replace HB:=Aside0.mk (Qj (by repeat (first|(with_reducible first|exact HB.out|apply Qc|apply Qa|apply Qd)|exact HB.out)) hb);clear hb hbox hg;have hcz11_0:w10.cell? ⟨gb397,0,none⟩=some (.slice A0_0 l0_0.length c0_0):=(Qx BK397.out 0).trans rfl;have hfz11_0:=Qp BK397.out 0)|((with_reducible refine Qk (f:=62) rfl ?_);refine Q6 (some 14) rfl rfl Try.func62 (by kernel_rfl) rfl #[.agg #[.slice A0_0 l0_0.length c0_0], .slice A1 l1.length c1, .int .i64 a2] rfl (by (try simp only [List.map_toArray,List.map_cons,List.map_nil]);first|done|rfl|(simp only [List.length_drop,List.length_take];rfl)) ?_;(with_reducible refine (Qb9.calls k _ _ l0_0 _ _ l1 a2 true _ ?side1 ?side2 ?side3 ?side4 A4.out).mono ?_);(case side1=>repeat (first|exact (Kd.C_below HR0_0.out HB.out)|(with_reducible refine Kd.C_alloc ?_ _)|(with_reducible refine Kd.C_drewN ?_ _)|(with_reducible refine Kd.C_drew ?_)));(case side2=>exact HC0_0.out);(case side3=>repeat (first|exact (Kd.C_below HR1.out HB.out)|(with_reducible refine Kd.C_alloc ?_ _)|(with_reducible refine Kd.C_drewN ?_ _)|(with_reducible refine Kd.C_drew ?_)));(case side4=>exact HC1.out);rintro e w12 ⟨rfl,hb⟩;refine ⟨_,rfl,?_⟩;replace BK397:=Aside0.mk (Qu (g:=gb397) (o:= .cells #[.slice A0_0 l0_0.length c0_0] 26 (0,0)) (by (with_reducible repeat (first|refine Qg ?_ _|refine Qh ?_|refine Qf ?_ _));exact BK397.out) hb);replace HB:=Aside0.mk (Qj (by repeat (first|(with_reducible first|exact HB.out|apply Qc|apply Qa|apply Qd|refine Qe ?_ GE397.out)|exact HB.out)) hb);(try clear hb);(try clear hb2);(try clear hk);(try clear hi))|((with_reducible refine Qbb (N:=16) rfl ?_);refine Kd.S_lit (Kd.slice 3 (Kd.int .i64)) _ 24 ?hg (N:=16) ?hd (xs:=([] :List (List Int))) (inner:= []) (ok:=fun _=>True) (okp:=fun _=>True) ?hr ?hp (fun _ hk=>hk) trivial (Below.refl _ _) (Nat.le_refl _) (by simp) ?_;(case hd=>rfl);(case hg=>rfl);(case hr=>first|(go_simp;done)|(go_simp;rfl));(case hp=>exact (Reps.none _ _));intro v400 w13 ho14 hb hg_ hnew_;clear hg_ hnew_;(first|rw [←Ny399.out] at ho14|(simp only [Int.reduceToNat] at ho14;rw [←Ny399.out] at ho14));have HO401:=Aside0.mk (Kd.S_lower ho14 (Qq (by repeat (first|(with_reducible first|exact HB.out|apply Qc|apply Qa|apply Qd|refine Qe ?_ GE397.out)|exact HB.out))));replace BK397:=Aside0.mk (Qu (g:=gb397) (o:= .cells #[.slice A0_0 l0_0.length c0_0] 26 (0,0)) (by (with_reducible repeat (first|refine Qg ?_ _|refine Qh ?_|refine Qf ?_ _));exact BK397.out) hb);replace HB:=Aside0.mk (Qj (by repeat (first|(with_reducible first|exact HB.out|apply Qc|apply Qa|apply Qd|refine Qe ?_ GE397.out)|exact HB.out)) hb);clear hb ho14;have hcz15_0:w13.cell? ⟨gb397,0,none⟩=some (.slice A0_0 l0_0.length c0_0):=(Qx BK397.out 0).trans rfl;have hfz15_0:=Qp BK397.out 0)|((with_reducible refine Qk (f:=65) rfl ?_);refine Q6 (some 18) rfl rfl Try.func65 (by kernel_rfl) rfl #[.agg #[.slice A0_0 l0_0.length c0_0]] rfl (by (try simp only [List.map_toArray,List.map_cons,List.map_nil]);first|done|rfl|(simp only [List.length_drop,List.length_take];rfl)) ?_;(with_reducible refine (Qch.calls _ _ l0_0 t402 _ ?side1 ?side2 A6.out).mono ?_);(case side1=>repeat (first|exact (Kd.C_below HR0_0.out HB.out)|(with_reducible refine Kd.C_alloc ?_ _)|(with_reducible refine Kd.C_drewN ?_ _)|(with_reducible refine Kd.C_drew ?_)));(case side2=>exact HC0_0.out);rintro e w16 ⟨rfl,hb⟩;refine ⟨_,rfl,?_⟩;replace HO401:=Aside0.mk (Kd.S_below (by (with_reducible repeat (first|apply Kd.S_alloc|apply Kd.S_drewN|apply Kd.S_drew));exact HO401.out) hb);replace BK397:=Aside0.mk (Qu (g:=gb397) (o:= .cells #[.slice A0_0 l0_0.length c0_0] 26 (0,0)) (by (with_reducible repeat (first|refine Qg ?_ _|refine Qh ?_|refine Qf ?_ _));exact BK397.out) hb);replace HB:=Aside0.mk (Qj (by repeat (first|(with_reducible first|exact HB.out|apply Qc|apply Qa|apply Qd|refine Qe ?_ GE397.out)|exact HB.out)) hb);(try clear hb);(try clear hb2);(try clear hk);(try clear hi))|((with_reducible refine Qk (f:=64) rfl ?_);refine Q6 (some 19) rfl rfl Try.func64 (by kernel_rfl) rfl #[.int .i64 t402] rfl (by (try simp only [List.map_toArray,List.map_cons,List.map_nil]);first|done|rfl|(simp only [List.length_drop,List.length_take];rfl)) ?_;(with_reducible refine (Qbn.calls k t402 t403 _ A7.out).mono ?_);rintro e w17 ⟨v404,rfl,ho0,hb⟩;refine ⟨_,rfl,?_⟩;replace HO401:=Aside0.mk (Kd.S_elder' (by (with_reducible repeat (first|apply Kd.S_alloc|apply Kd.S_drewN|apply Kd.S_drew));exact HO401.out) (Kd.R_base ho0) hb);have HO405:=Aside0.mk (Kd.R_lower ho0 (Qq (by repeat (first|(with_reducible first|exact HB.out|apply Qc|apply Qa|apply Qd|refine Qe ?_ GE397.out)|exact HB.out))));replace BK397:=Aside0.mk (Qu (g:=gb397) (o:= .cells #[.slice A0_0 l0_0.length c0_0] 26 (0,0)) (by (with_reducible repeat (first|refine Qg ?_ _|refine Qh ?_|refine Qf ?_ _));exact BK397.out) hb);replace HB:=Aside0.mk (Qj (by repeat (first|(with_reducible first|exact HB.out|apply Qc|apply Qa|apply Qd|refine Qe ?_ GE397.out)|exact HB.out)) hb);(try clear hb);(try clear hb2);(try clear hk);(try clear hi);(try clear ho0);obtain ⟨Ao18,co18,eo18⟩:=Kd.R_slice HO405.out;subst eo18)|((with_reducible refine Qk (f:=63) rfl ?_);refine Q6 (some 20) rfl rfl Try.func63 (by kernel_rfl) rfl #[.slice Ao18 t403.length co18] rfl (by (try simp only [List.map_toArray,List.map_cons,List.map_nil]);first|done|rfl|(simp only [List.length_drop,List.length_take];rfl)) ?_;(with_reducible refine (Qb6.calls k _ _ t403 t406 _ ?side1 ?side2 A8.out).mono ?_);(case side1=>repeat (first|exact (Kd.R_reads' HO405.out).2.2|(with_reducible refine Kd.C_alloc ?_ _)|(with_reducible refine Kd.C_drewN ?_ _)|(with_reducible refine Kd.C_drew ?_)));(case side2=>exact (Kd.R_reads' HO405.out).2.1);rintro e w19 ⟨v407,rfl,ho0,hb⟩;refine ⟨_,rfl,?_⟩;replace HO401:=Aside0.mk (Kd.S_elder' (by (with_reducible repeat (first|apply Kd.S_alloc|apply Kd.S_drewN|apply Kd.S_drew));exact HO401.out) (Kd.R_base ho0) hb);have HO408:=Aside0.mk (Kd.R_lower (Kd.R_new' ho0 (Kd.R_lt (by (with_reducible repeat (first|apply Kd.R_alloc|apply Kd.R_drewN|apply Kd.R_drew));exact HO405.out))) (Qq (by repeat (first|(with_reducible first|exact HB.out|apply Qc|apply Qa|apply Qd|refine Qe ?_ GE397.out)|exact HB.out))));replace HO405:=Aside0.mk (Kd.R_elder' (by (with_reducible repeat (first|apply Kd.R_alloc|apply Kd.R_drewN|apply Kd.R_drew));exact HO405.out) (Kd.R_base ho0) hb);replace BK397:=Aside0.mk (Qu (g:=gb397) (o:= .cells #[.slice A0_0 l0_0.length c0_0] 26 (0,0)) (by (with_reducible repeat (first|refine Qg ?_ _|refine Qh ?_|refine Qf ?_ _));exact BK397.out) hb);replace HB:=Aside0.mk (Qj (by repeat (first|(with_reducible first|exact HB.out|apply Qc|apply Qa|apply Qd|refine Qe ?_ GE397.out)|exact HB.out)) hb);(try clear hb);(try clear hb2);(try clear hk);(try clear hi);(try clear ho0))|((with_reducible refine Qk (f:=66) rfl ?_);refine Q6 (some 22) rfl rfl Try.func66 (by kernel_rfl) rfl #[.slice A1 l1.length c1] rfl (by (try simp only [List.map_toArray,List.map_cons,List.map_nil]);first|done|rfl|(simp only [List.length_drop,List.length_take];rfl)) ?_;(with_reducible refine (Qb5.calls _ _ l1 t409 _ ?side1 ?side2 A9.out).mono ?_);(case side1=>repeat (first|exact (Kd.C_below HR1.out HB.out)|(with_reducible refine Kd.C_alloc ?_ _)|(with_reducible refine Kd.C_drewN ?_ _)|(with_reducible refine Kd.C_drew ?_)));(case side2=>exact HC1.out);rintro e w20 ⟨v410,rfl,ho0,hb⟩;refine ⟨_,rfl,?_⟩;replace HO401:=Aside0.mk (Kd.S_elder' (by (with_reducible repeat (first|apply Kd.S_alloc|apply Kd.S_drewN|apply Kd.S_drew));exact HO401.out) (Kd.R_base ho0) hb);have HO411:=Aside0.mk (Kd.R_lower (Kd.R_new' (Kd.R_new' ho0 (Kd.R_lt (by (with_reducible repeat (first|apply Kd.R_alloc|apply Kd.R_drewN|apply Kd.R_drew));exact HO405.out))) (Kd.R_lt (by (with_reducible repeat (first|apply Kd.R_alloc|apply Kd.R_drewN|apply Kd.R_drew));exact HO408.out))) (Qq (by repeat (first|(with_reducible first|exact HB.out|apply Qc|apply Qa|apply Qd|refine Qe ?_ GE397.out)|exact HB.out))));replace HO405:=Aside0.mk (Kd.R_elder' (by (with_reducible repeat (first|apply Kd.R_alloc|apply Kd.R_drewN|apply Kd.R_drew));exact HO405.out) (Kd.R_base ho0) hb);replace HO408:=Aside0.mk (Kd.R_elder' (by (with_reducible repeat (first|apply Kd.R_alloc|apply Kd.R_drewN|apply Kd.R_drew));exact HO408.out) (Kd.R_base ho0) hb);replace BK397:=Aside0.mk (Qu (g:=gb397) (o:= .cells #[.slice A0_0 l0_0.length c0_0] 26 (0,0)) (by (with_reducible repeat (first|refine Qg ?_ _|refine Qh ?_|refine Qf ?_ _));exact BK397.out) hb);replace HB:=Aside0.mk (Qj (by repeat (first|(with_reducible first|exact HB.out|apply Qc|apply Qa|apply Qd|refine Qe ?_ GE397.out)|exact HB.out)) hb);(try clear hb);(try clear hb2);(try clear hk);(try clear hi);(try clear ho0)))
  go_loopg [8] k (fun kq v8 w'=> ∃ (x8_1:List (List Int)) (x10_1:List Int),Aside0 (Q7.l0 kq l1 a2 x8_1 t406 x10_1 l0_0=some (r1,r2))∧Aside0 (kq≤k)∧Aside0 (Kd.S (Kd.slice 3 (Kd.int .i64)) 24 w' w.heap.size (fun k_=>some k_≠(v407:Value).ownBlock∧some k_≠(v410:Value).ownBlock) v8 x8_1)∧Aside0 (Kd.R (Kd.int .i64) 3 w' w.heap.size (fun k_=>some k_≠(v410:Value).ownBlock) v407 t406)∧Aside0 (Kd.R (Kd.int .i64) 3 w' w.heap.size (fun k_=>some k_≠(v407:Value).ownBlock) v410 x10_1)∧Aside0 (w'.heap[gb397]? =some (.cells #[(.slice A0_0 l0_0.length c0_0)] 26 (0,0)))∧Aside0 (Below w.heap.size w w'))
  case atStart=>exact ⟨(y399),(t409),H',⟨Nat.le_refl _⟩,⟨by (with_reducible repeat (first|apply Kd.S_alloc|apply Kd.S_drewN|apply Kd.S_drew));exact Kd.S_mono HO401.out (fun _ hk=>⟨hk.1.2,hk.2⟩)⟩,⟨by (with_reducible repeat (first|apply Kd.R_alloc|apply Kd.R_drewN|apply Kd.R_drew));exact Kd.R_mono HO408.out (fun _ hk=>hk.2)⟩,⟨by (with_reducible repeat (first|apply Kd.R_alloc|apply Kd.R_drewN|apply Kd.R_drew));exact Kd.R_mono HO411.out (fun _ hk=>hk.2)⟩,⟨by (with_reducible repeat (first|refine Qg ?_ _|refine Qh ?_|refine Qf ?_ _));exact BK397.out⟩,⟨by repeat (first|(with_reducible first|exact HB.out|apply Qc|apply Qa|apply Qd|refine Qe ?_ GE397.out)|exact HB.out)⟩⟩
  case round=>
   clear H'
   try clear c1
   try clear p2
   try clear c5
   try clear c6
   try clear c8
   try clear hcz11_0
   try clear hcz15_0
   try clear hfz11_0
   try clear hfz15_0
   obtain ⟨x8_1,x10_1,HA,HK1,HO_8,HO_9,HO_10,BK397,HB⟩:=hrel;cases gk with
   |zero=>exact absurd HA.out (by simp [Q7.l0])
   |succ k1=>
    have H:=HA.out;clear HA;simp only [Q7.l0] at H;have HC21:=Aside0.mk H;clear H;go_upto_region 5 with (fail)
    go_cut [31] (fun v31 wc=> ∃ (kq:Nat) (x31_20:Bool),v31= .bool x31_20∧Aside0 (Q7.j1 kq l1 a2 x8_1 t406 x10_1 x31_20 l0_0=some (r1,r2))∧Aside0 (kq≤k1)∧Aside0 (Kd.S (Kd.slice 3 (Kd.int .i64)) 24 wc w.heap.size (fun k_=>some k_≠(v407:Value).ownBlock∧some k_≠(v410:Value).ownBlock) u8 x8_1)∧Aside0 (Kd.R (Kd.int .i64) 3 wc w.heap.size (fun k_=>some k_≠(v410:Value).ownBlock) v407 t406)∧Aside0 (Kd.R (Kd.int .i64) 3 wc w.heap.size (fun k_=>some k_≠(v407:Value).ownBlock) v410 x10_1)∧Aside0 (wc.heap[gb397]? =some (.cells #[(.slice A0_0 l0_0.length c0_0)] 26 (0,0)))∧Aside0 (Below w.heap.size w wc))
    case first=>
     have H:=HC21.out;clear HC21
     by_cases c22:(x8_1.length:Int)=0
     ·
      rw [if_pos c22] at H;have c22b0:((x8_1.length:Int)==0)=true:=beq_iff_eq.mpr c22;have c22b1:((x8_1.length:Int) !=0)=false:=bne_eq_false_iff_eq.mpr c22;clear c22
      (first|rw [c22b0] |(simp only [Qcb,Qcj];rw [c22b0])|skip)
      have H':=Aside0.mk H;clear H;obtain ⟨Ao23,co23,eo23⟩:=Kd.S_slice HO_8.out;subst eo23;go_wp2
      go_meet
      case rel=>exact ⟨_,(true),(by first|rfl|(simp;done)|(simp [*];done)),H',⟨by have:=HK1.out;first|omega|exact Nat.le_refl _⟩,⟨by (with_reducible repeat (first|apply Kd.S_alloc|apply Kd.S_drewN|apply Kd.S_drew));exact HO_8.out⟩,⟨by (with_reducible repeat (first|apply Kd.R_alloc|apply Kd.R_drewN|apply Kd.R_drew));exact HO_9.out⟩,⟨by (with_reducible repeat (first|apply Kd.R_alloc|apply Kd.R_drewN|apply Kd.R_drew));exact HO_10.out⟩,⟨by (with_reducible repeat (first|refine Qg ?_ _|refine Qh ?_|refine Qf ?_ _));exact BK397.out⟩,⟨by repeat (first|(with_reducible first|exact HB.out|apply Qc|apply Qa|apply Qd|refine Qe ?_ GE397.out)|exact HB.out)⟩⟩
     ·
      rw [if_neg c22] at H;have c22b0:((x8_1.length:Int)==0)=false:=beq_eq_false_iff_ne.mpr c22;have c22b1:((x8_1.length:Int) !=0)=true:=bne_iff_ne.mpr c22;have c22b2: ¬ (x8_1= []):=fun h_=>c22 (by rw [h_];rfl)
      (first|rw [c22b0] |(simp only [Qcb,Qcj];rw [c22b0])|skip)
      replace H:=Option.bind_eq_some_iff.mp H;obtain ⟨t412,A240,H⟩:=H;replace H:(Q7.j1 k1 l1 a2 x8_1 t406 x10_1 (!t412) l0_0)=some (r1,r2):=H;have A24:=Aside0.mk A240;clear A240;have H':=Aside0.mk H;clear H;obtain ⟨Ao25,co25,eo25⟩:=Kd.S_slice HO_8.out;subst eo25;obtain ⟨Ao26,co26,eo26⟩:=Kd.R_slice HO_10.out;subst eo26;go_wp2_with (first|(go_at_call 67;(with_reducible refine (Qbq.calls k1 _ _ x10_1 _ _ l1 t412 _ ?side1 ?side2 ?side3 ?side4 A24.out).mono ?_);(case side1=>repeat (first|exact (Kd.R_reads' HO_10.out).2.2|(with_reducible refine Kd.C_alloc ?_ _)|(with_reducible refine Kd.C_drewN ?_ _)|(with_reducible refine Kd.C_drew ?_)));(case side2=>exact (Kd.R_reads' HO_10.out).2.1);(case side3=>repeat (first|exact (Kd.C_below HR1.out HB.out)|(with_reducible refine Kd.C_alloc ?_ _)|(with_reducible refine Kd.C_drewN ?_ _)|(with_reducible refine Kd.C_drew ?_)));(case side4=>exact HC1.out);rintro e w' ⟨rfl,⟨nd,rfl⟩⟩))
      go_meet
      case rel=>exact ⟨_,(!t412),(by first|rfl|(simp;done)|(simp [*];done)),H',⟨by have:=HK1.out;first|omega|exact Nat.le_refl _⟩,⟨by (with_reducible repeat (first|apply Kd.S_alloc|apply Kd.S_drewN|apply Kd.S_drew));exact HO_8.out⟩,⟨by (with_reducible repeat (first|apply Kd.R_alloc|apply Kd.R_drewN|apply Kd.R_drew));exact HO_9.out⟩,⟨by (with_reducible repeat (first|apply Kd.R_alloc|apply Kd.R_drewN|apply Kd.R_drew));exact HO_10.out⟩,⟨by (with_reducible repeat (first|refine Qg ?_ _|refine Qh ?_|refine Qf ?_ _));exact BK397.out⟩,⟨by repeat (first|(with_reducible first|exact HB.out|apply Qc|apply Qa|apply Qd|refine Qe ?_ GE397.out)|exact HB.out)⟩⟩
    case rest=>
     clear HC21
     try clear c1
     try clear c2
     try clear p2
     try clear c5
     try clear c6
     try clear c8
     try clear c22
     try clear c22b0
     try clear c22b1
     try clear c22b2
     try clear hcz11_0
     try clear hcz15_0
     try clear hfz11_0
     try clear hfz15_0
     try clear p2
     obtain ⟨kq,x31_20,rfl,HA,HJ20,HO_8,HO_9,HO_10,BK397,HB⟩:=hcut;cases kq with
     |zero=>exact absurd HA.out (by simp [Q7.j1])
     |succ kj20=>
      have H:=HA.out;clear HA;simp only [Q7.j1] at H
      by_cases c27:x31_20=true
      ·
       subst c27;have H1:(if (x8_1.length:Int)=1000 then (some (([] :List (List Int)),false)) else ((Qb5.f x10_1).bind fun t413=>(if x8_1.length<5864062014805 then ((Qbh.f kj20 l0_0 x10_1 a2 t406).bind fun t419=>(Q7.l0 kj20 l1 a2 (x8_1++ [t413]) t406 t419 l0_0)) else (none))))=some (r1,r2):=by rw [if_pos rfl] at H;exact H
       clear H;have H:=H1;clear H1
       by_cases c28:(x8_1.length:Int)=1000
       ·
        rw [if_pos c28] at H;have c28b0:((x8_1.length:Int)==1000)=true:=beq_iff_eq.mpr c28;have c28b1:((x8_1.length:Int) !=1000)=false:=bne_eq_false_iff_eq.mpr c28;clear c28;simp only [Option.some.injEq,Prod.mk.injEq] at H;obtain ⟨rfl,rfl⟩:=H;obtain ⟨Ao29,co29,eo29⟩:=Kd.S_slice HO_8.out;subst eo29;go_wp2
        go_ret2
        exact ⟨_,by first|rfl|(simp [Qm,Ql] <;>rfl)|(simp [*,Qm,Ql] <;>rfl),by first|exact Kd.S_nil _ _ _ _ _|exact Kd.N_nil _ _ _ _ _|exact Kd.V_nil _ _ _ _ _|exact Kd.Q_nil _ _ _ _ _|exact Kd.R_nil _ _ _ _ _,by repeat (first|(with_reducible first|exact HB.out|apply Qc|apply Qa|apply Qd|refine Qe ?_ GE397.out)|exact HB.out)⟩
       ·
        rw [if_neg c28] at H;have c28b0:((x8_1.length:Int)==1000)=false:=beq_eq_false_iff_ne.mpr c28;have c28b1:((x8_1.length:Int) !=1000)=true:=bne_iff_ne.mpr c28;replace H:=Option.bind_eq_some_iff.mp H;obtain ⟨t413,A300,H⟩:=H;replace H:(if x8_1.length<5864062014805 then ((Qbh.f kj20 l0_0 x10_1 a2 t406).bind fun t419=>(Q7.l0 kj20 l1 a2 (x8_1++ [t413]) t406 t419 l0_0)) else (none))=some (r1,r2):=H;have A30:=Aside0.mk A300;clear A300
        by_cases c31:x8_1.length<5864062014805
        ·
         rw [if_pos c31] at H;have LMc31:=Aside0.mk c31;clear c31;obtain ⟨y416,hy416⟩: ∃ y_:List (List Int),y_=(x8_1++ [t413]):=⟨_,rfl⟩
         replace H:((Qbh.f kj20 l0_0 x10_1 a2 t406).bind fun t419=>(Q7.l0 kj20 l1 a2 y416 t406 t419 l0_0))=some (r1,r2):=by first|(rw [hy416];with_reducible exact H)|(have H2_:=(Option.bind_some _ _).symm.trans H;rw [hy416];with_reducible exact H2_)|(have H2_:=(Option.bind_some _ _).symm.trans H;with_reducible exact H2_)|with_reducible exact H|(rw [hy416];exact H)|exact H
         have Ny416:=Aside0.mk hy416;clear hy416;replace H:=Option.bind_eq_some_iff.mp H;obtain ⟨t419,A320,H⟩:=H;replace H:(Q7.l0 kj20 l1 a2 y416 t406 t419 l0_0)=some (r1,r2):=H;have A32:=Aside0.mk A320;clear A320;have H':=Aside0.mk H;clear H;obtain ⟨Ao33,co33,eo33⟩:=Kd.S_slice HO_8.out;subst eo33;obtain ⟨Ao34,co34,eo34⟩:=Kd.R_slice HO_10.out;subst eo34;go_wp2_with (first|((with_reducible refine Qk (f:=66) rfl ?_);refine Q6 (some 37) rfl rfl Try.func66 (by kernel_rfl) rfl #[.slice Ao34 x10_1.length co34] rfl (by (try simp only [List.map_toArray,List.map_cons,List.map_nil]);first|done|rfl|(simp only [List.length_drop,List.length_take];rfl)) ?_;(with_reducible refine (Qb5.calls _ _ x10_1 t413 _ ?side1 ?side2 A30.out).mono ?_);(case side1=>repeat (first|exact (Kd.R_reads' HO_10.out).2.2|(with_reducible refine Kd.C_alloc ?_ _)|(with_reducible refine Kd.C_drewN ?_ _)|(with_reducible refine Kd.C_drew ?_)));(case side2=>exact (Kd.R_reads' HO_10.out).2.1);rintro e w35 ⟨v414,rfl,ho0,hb⟩;refine ⟨_,rfl,?_⟩;replace HO_8:=Aside0.mk (Kd.S_elder' (by (with_reducible repeat (first|apply Kd.S_alloc|apply Kd.S_drewN|apply Kd.S_drew));exact HO_8.out) (Kd.R_base ho0) hb);have HO415:=Aside0.mk (Kd.R_lower (Kd.R_new' (Kd.R_new' ho0 (Kd.R_lt (by (with_reducible repeat (first|apply Kd.R_alloc|apply Kd.R_drewN|apply Kd.R_drew));exact HO_9.out))) (Kd.R_lt (by (with_reducible repeat (first|apply Kd.R_alloc|apply Kd.R_drewN|apply Kd.R_drew));exact HO_10.out))) (Qq (by repeat (first|(with_reducible first|exact HB.out|apply Qc|apply Qa|apply Qd|refine Qe ?_ GE397.out)|exact HB.out))));replace HO_9:=Aside0.mk (Kd.R_elder' (by (with_reducible repeat (first|apply Kd.R_alloc|apply Kd.R_drewN|apply Kd.R_drew));exact HO_9.out) (Kd.R_base ho0) hb);replace HO_10:=Aside0.mk (Kd.R_elder' (by (with_reducible repeat (first|apply Kd.R_alloc|apply Kd.R_drewN|apply Kd.R_drew));exact HO_10.out) (Kd.R_base ho0) hb);replace BK397:=Aside0.mk (Qu (g:=gb397) (o:= .cells #[.slice A0_0 l0_0.length c0_0] 26 (0,0)) (by (with_reducible repeat (first|refine Qg ?_ _|refine Qh ?_|refine Qf ?_ _));exact BK397.out) hb);replace HB:=Aside0.mk (Qj (by repeat (first|(with_reducible first|exact HB.out|apply Qc|apply Qa|apply Qd|refine Qe ?_ GE397.out)|exact HB.out)) hb);(try clear hb);(try clear hb2);(try clear hk);(try clear hi);(try clear ho0);obtain ⟨Ao37,co37,eo37⟩:=Kd.R_slice HO415.out;subst eo37)|((with_reducible refine Qcv (b:= .append) (xs:= #[.tmp 35, .tmp 38]) rfl ?_);at_builtin;refine Kd.S_append (Kd.slice 3 (Kd.int .i64)) (w0:=w) w.heap.size rfl (.tmp 35) (.tmp 38) 29 24 (.slice none 0 0) 24 rfl Try.underlying29 Qd8 rfl (by decide) (by omega) (.slice Ao33 x8_1.length co33) x8_1 t413 [.slice Ao37 t413.length co37] (fun k_=>some k_≠(v407:Value).ownBlock∧some k_≠(.slice Ao34 x10_1.length co34:Value).ownBlock) (fun k_=>some k_=(.slice Ao37 t413.length co37:Value).ownBlock) rfl rfl ?aP (fun k_ hk_=>((Kd.R_mono (ok':=fun k_=>((fun k_=>some k_≠(v407:Value).ownBlock∧some k_≠(.slice Ao34 x10_1.length co34:Value).ownBlock)) k_∧some k_≠(.slice Ao33 x8_1.length co33:Value).ownBlock) (Kd.R_apart' (HO415.out) (Kd.S_typed HO_8.out) (by decide)) (fun k_ hk=>⟨⟨hk.1.1.2,hk.1.2⟩,hk.2⟩))).1 k_ hk_.symm) ?aF ?aO ?aB ?aS ?aL ?_;(case aP=>exact Kd.M_row (Kd.R_mono (Kd.R_tight rfl (Kd.R_mono (ok':=fun k_=>((fun k_=>some k_≠(v407:Value).ownBlock∧some k_≠(.slice Ao34 x10_1.length co34:Value).ownBlock)) k_∧some k_≠(.slice Ao33 x8_1.length co33:Value).ownBlock) (Kd.R_apart' (HO415.out) (Kd.S_typed HO_8.out) (by decide)) (fun k_ hk=>⟨⟨hk.1.1.2,hk.1.2⟩,hk.2⟩))) (fun _ h_=>h_)));(case aB=>exact (by repeat (first|(with_reducible first|exact HB.out|apply Qc|apply Qa|apply Qd|refine Qe ?_ GE397.out)|exact HB.out)));(case aF=>exact (fun k_ hk=>⟨Kd.fresh' (Kd.R_lt (by (with_reducible repeat (first|apply Kd.R_alloc|apply Kd.R_drewN|apply Kd.R_drew));exact HO_9.out)) k_ hk,Kd.fresh' (Kd.R_lt (by (with_reducible repeat (first|apply Kd.R_alloc|apply Kd.R_drewN|apply Kd.R_drew));exact HO_10.out)) k_ hk⟩));(case aO=>exact (by (with_reducible repeat (first|apply Kd.S_alloc|apply Kd.S_drewN|apply Kd.S_drew));exact Kd.S_mono HO_8.out (fun k_ hk=>⟨⟨hk.1.1,hk.1.2⟩,fun e_=>hk.2 e_⟩)));(case aS=>exact (Qq (by repeat (first|(with_reducible first|exact HB.out|apply Qc|apply Qa|apply Qd|refine Qe ?_ GE397.out)|exact HB.out))));(case aL=>have:=LMc31.out;omega);intro v417 w36 ho hb hg hat;rw [←Ny416.out] at ho;replace HO_9:=Aside0.mk (Kd.R_over' (by (with_reducible repeat (first|apply Kd.R_alloc|apply Kd.R_drewN|apply Kd.R_drew));exact HO_9.out) (Kd.S_typed (by (with_reducible repeat (first|apply Kd.S_alloc|apply Kd.S_drewN|apply Kd.S_drew));exact HO_8.out)) (by decide) hg);replace HO_10:=Aside0.mk (Kd.R_over' (by (with_reducible repeat (first|apply Kd.R_alloc|apply Kd.R_drewN|apply Kd.R_drew));exact HO_10.out) (Kd.S_typed (by (with_reducible repeat (first|apply Kd.S_alloc|apply Kd.S_drewN|apply Kd.S_drew));exact HO_8.out)) (by decide) hg);replace BK397:=Aside0.mk (Qcx (g:=gb397) (o:= .cells #[.slice A0_0 l0_0.length c0_0] 26 (0,0)) (by (with_reducible repeat (first|refine Qg ?_ _|refine Qh ?_|refine Qf ?_ _));exact BK397.out) hg (Kd.S_ne HO_8.out BK397.out (by decide)));replace HB:=Aside0.mk (hb);have HO418:=Aside0.mk (ho);clear HO_8 HO415;clear ho hb hg hat;have hcz38_0:w36.cell? ⟨gb397,0,none⟩=some (.slice A0_0 l0_0.length c0_0):=(Qx BK397.out 0).trans rfl;have hfz38_0:=Qp BK397.out 0;obtain ⟨Ao39,co39,eo39⟩:=Kd.R_slice HO_9.out;subst eo39)|((with_reducible refine Qk (f:=68) rfl ?_);refine Q6 (some 44) rfl rfl Try.func68 (by kernel_rfl) rfl #[.agg #[.slice A0_0 l0_0.length c0_0], .slice Ao34 x10_1.length co34, .int .i64 a2, .slice Ao39 t406.length co39] rfl (by (try simp only [List.map_toArray,List.map_cons,List.map_nil]);first|done|rfl|(simp only [List.length_drop,List.length_take];rfl)) ?_;(with_reducible refine (Qbh.calls kj20 _ _ l0_0 (fun k_=>some k_=(.slice Ao34 x10_1.length co34:Value).ownBlock) (.slice Ao34 x10_1.length co34) x10_1 a2 _ _ t406 t419 w _ ?side1 ?side2 ?side3 ?side4 ?side5 ?side6 A32.out).mono ?_);(case side1=>repeat (first|(with_reducible first|exact HB.out|apply Qc|apply Qa|apply Qd|refine Qe ?_ GE397.out)|exact HB.out));(case side2=>exact Kd.C_kept_came (Kd.heap_int .i64) HR0_0.out (by repeat (first|(with_reducible first|exact HB.out|apply Qc|apply Qa|apply Qd|refine Qe ?_ GE397.out)|exact HB.out)) (fun k_ hs_=>(fun e_=>Kd.R_base HO_10.out k_ e_.symm) hs_));(case side3=>exact HC0_0.out);(case side4=>exact Kd.R_tight rfl HO_10.out);(case side5=>exact Kd.C_kept_own (HO_9.out) (fun k_ hk_ hs_=>(hk_.1) hs_));(case side6=>exact (Kd.R_reads' HO_9.out).2.1);rintro e w40 ⟨rfl,hy0,hb,hkp⟩;refine ⟨_,rfl,?_⟩;replace HO_9:=Aside0.mk (Kd.R_mono (ok':=fun k_=>some k_≠(.slice Ao34 x10_1.length co34:Value).ownBlock) (Kd.R_keptB (HO_9.out) hkp (fun k_ hk_ hs_=>(hk_.1) hs_)) (fun k_ hk_=>hk_.1.1));replace BK397:=Aside0.mk (Qgc (by (with_reducible repeat (first|refine Qg ?_ _|refine Qh ?_|refine Qf ?_ _));exact BK397.out) hkp (fun hs_=>(fun e_=>(Kd.R_ne HO_10.out BK397.out (by decide)) e_) hs_));replace HO_10:=Aside0.mk (Kd.R_reok rfl hy0 (fun k_ e_=>HO_10.out.1 k_ e_));replace HO418:=Aside0.mk (Kd.S_mono (ok':=fun k_=>some k_≠(.slice Ao39 t406.length co39:Value).ownBlock∧some k_≠(.slice Ao34 x10_1.length co34:Value).ownBlock) (Kd.S_keptB (HO418.out) hkp (fun k_ hk_ hs_=>(hk_.2) hs_)) (fun k_ hk_=>⟨hk_.1.1,hk_.1.2⟩));replace HB:=Aside0.mk (hb);(try clear hb);(try clear hkp);(try clear hy0)))
         go_roundg kj20
         case measure=>have:=HK1.out;have:=HJ20.out;omega
         case rel=>exact ⟨(y416),(t419),H',⟨by have:=HK1.out;have:=HJ20.out;omega⟩,⟨by (with_reducible repeat (first|apply Kd.S_alloc|apply Kd.S_drewN|apply Kd.S_drew));exact HO418.out⟩,⟨by (with_reducible repeat (first|apply Kd.R_alloc|apply Kd.R_drewN|apply Kd.R_drew));exact HO_9.out⟩,⟨by (with_reducible repeat (first|apply Kd.R_alloc|apply Kd.R_drewN|apply Kd.R_drew));exact Kd.R_mono HO_10.out (fun _ hk=>hk.1)⟩,⟨by (with_reducible repeat (first|refine Qg ?_ _|refine Qh ?_|refine Qf ?_ _));exact BK397.out⟩,⟨by repeat (first|(with_reducible first|exact HB.out|apply Qc|apply Qa|apply Qd|refine Qe ?_ GE397.out)|exact HB.out)⟩⟩
        ·
         rw [if_neg c31] at H;exact absurd H (by simp)
      ·
       replace c27:=Bool.eq_false_iff.mpr c27;subst c27;have H1:(some (x8_1,true))=some (r1,r2):=by rw [if_neg (show ¬ (false=true) by decide)] at H;exact H
       clear H;have H:=H1;clear H1;simp only [Option.some.injEq,Prod.mk.injEq] at H;obtain ⟨rfl,rfl⟩:=H;go_wp2
       go_ret2
       exact ⟨_,by first|rfl|(simp [Qm,Ql] <;>rfl)|(simp [*,Qm,Ql] <;>rfl),by (with_reducible repeat (first|apply Kd.S_alloc|apply Kd.S_drewN|apply Kd.S_drew));exact Kd.S_mono HO_8.out (fun _ hk=>trivial),by repeat (first|(with_reducible first|exact HB.out|apply Qc|apply Qa|apply Qd|refine Qe ?_ GE397.out)|exact HB.out)⟩
 ·
  replace c5:=Bool.eq_false_iff.mpr c5;subst c5;have H1:(some (([] :List (List Int)),false))=some (r1,r2):=by rw [if_neg (show ¬ (false=true) by decide)] at H;exact H
  clear H;have H:=H1;clear H1;simp only [Option.some.injEq,Prod.mk.injEq] at H;obtain ⟨rfl,rfl⟩:=H;go_enter Try.func8,Try.ntmps8;go_wp2_with (first|((with_reducible refine Qbb (N:=3) rfl ?_);refine Qbg ?hg (N:=3) ?hd (cs:= #[.slice A0_0 l0_0.length c0_0]) (t:=26) ?hr ?_;(case hd=>rfl);(case hg=>rfl);(case hr=>first|(go_simp;done)|(go_simp;rfl));intro gb397 hg w41 hbox hb;have BK397:=Aside0.mk (hbox);have GW397:=Aside0.mk ((by rw [hg];exact (Qq (by repeat (first|(with_reducible first|exact HB.out|apply Qc|apply Qa|apply Qd)|exact HB.out))):w.heap.size≤gb397));have GE397:=GW397;replace HB:=Aside0.mk (Qj (by repeat (first|(with_reducible first|exact HB.out|apply Qc|apply Qa|apply Qd)|exact HB.out)) hb);clear hb hbox hg;have hcz42_0:w41.cell? ⟨gb397,0,none⟩=some (.slice A0_0 l0_0.length c0_0):=(Qx BK397.out 0).trans rfl;have hfz42_0:=Qp BK397.out 0)|((with_reducible refine Qk (f:=62) rfl ?_);refine Q6 (some 14) rfl rfl Try.func62 (by kernel_rfl) rfl #[.agg #[.slice A0_0 l0_0.length c0_0], .slice A1 l1.length c1, .int .i64 a2] rfl (by (try simp only [List.map_toArray,List.map_cons,List.map_nil]);first|done|rfl|(simp only [List.length_drop,List.length_take];rfl)) ?_;(with_reducible refine (Qb9.calls k _ _ l0_0 _ _ l1 a2 false _ ?side1 ?side2 ?side3 ?side4 A4.out).mono ?_);(case side1=>repeat (first|exact (Kd.C_below HR0_0.out HB.out)|(with_reducible refine Kd.C_alloc ?_ _)|(with_reducible refine Kd.C_drewN ?_ _)|(with_reducible refine Kd.C_drew ?_)));(case side2=>exact HC0_0.out);(case side3=>repeat (first|exact (Kd.C_below HR1.out HB.out)|(with_reducible refine Kd.C_alloc ?_ _)|(with_reducible refine Kd.C_drewN ?_ _)|(with_reducible refine Kd.C_drew ?_)));(case side4=>exact HC1.out);rintro e w43 ⟨rfl,hb⟩;refine ⟨_,rfl,?_⟩;replace BK397:=Aside0.mk (Qu (g:=gb397) (o:= .cells #[.slice A0_0 l0_0.length c0_0] 26 (0,0)) (by (with_reducible repeat (first|refine Qg ?_ _|refine Qh ?_|refine Qf ?_ _));exact BK397.out) hb);replace HB:=Aside0.mk (Qj (by repeat (first|(with_reducible first|exact HB.out|apply Qc|apply Qa|apply Qd|refine Qe ?_ GE397.out)|exact HB.out)) hb);(try clear hb);(try clear hb2);(try clear hk);(try clear hi)))
  go_ret2
  exact ⟨_,by first|rfl|(simp [Qm,Ql] <;>rfl)|(simp [*,Qm,Ql] <;>rfl),by first|exact Kd.S_nil _ _ _ _ _|exact Kd.N_nil _ _ _ _ _|exact Kd.V_nil _ _ _ _ _|exact Kd.Q_nil _ _ _ _ _|exact Kd.R_nil _ _ _ _ _,by repeat (first|(with_reducible first|exact HB.out|apply Qc|apply Qa|apply Qd|refine Qe ?_ GE397.out)|exact HB.out)⟩
mutual
def Qbx.l0 : Nat → List Int → Int → Int → List Int → Option (Bool)
 |0,_,_,_,_=>none
 |k+1,x14,x15,x16,x421000=>if x16<x15 then (if 0≤x16 then (if x16<(x14.length:Int) then ((Qcq.f (rd x14 x16) 0 (wrap64 ((shl .i64 1 x16) - 1))).bind fun t423=>(if t423=true then (Qbx.l1 k x16 (rd x14 x16) 0 x14 x15 x16 x421000) else (some false))) else (none)) else (none)) else (some true)
def Qbx.l1 : Nat → Int → Int → Int → List Int → Int → Int → List Int → Option (Bool)
 |0,_,_,_,_,_,_,_=>none
 |k+1,x4,x5,x6,x14,x15,x16,x421000=>if x6<x4 then (if 0≤x6 then (if (Int.tmod (shr .i64 x5 x6) 2)=1 then (if x6<(x421000.length:Int) then (if (Go.bits .andNot .i64 (rd x421000 x6) x5)=0 then (Qbx.l1 k x4 x5 (wrap64 (x6+1)) x14 x15 x16 x421000) else (some false)) else (none)) else (Qbx.l1 k x4 x5 (wrap64 (x6+1)) x14 x15 x16 x421000)) else (none)) else (Qbx.l0 k x14 x15 (wrap64 (x16+1)) x421000)
end
def Qbx.f (k : Nat) (l0_0 : List Int) : Option (Bool) := (Qcq.f (l0_0.length : Int) 1 10).bind fun t421 => (if t421 = true then (Qbx.l0 k l0_0 (l0_0.length : Int) 0 l0_0) else (some false))
theorem Qbx.mono_l : ∀ k, (∀ y0 y1 y2 y3, LeO (Qbx.l0 k y0 y1 y2 y3) (Qbx.l0 (k + 1) y0 y1 y2 y3)) ∧ (∀ y0 y1 y2 y3 y4 y5 y6, LeO (Qbx.l1 k y0 y1 y2 y3 y4 y5 y6) (Qbx.l1 (k + 1) y0 y1 y2 y3 y4 y5 y6))
 |0=>⟨fun _ _ _ _ r h=>by simp [Qbx.l0] at h,fun _ _ _ _ _ _ _ r h=>by simp [Qbx.l1] at h⟩
 |k+1=>by
  obtain ⟨ih0,ih1⟩:=Qbx.mono_l k;refine ⟨?_,?_⟩
  ·
   intro y0 y1 y2 y3;unfold Qbx.l0
   repeat' first
   |(with_reducible exact ih0 _ _ _ _)
   |(with_reducible exact ih1 _ _ _ _ _ _ _)
   |(with_reducible exact LeO.refl _)
   |(with_reducible exact LeO.none _)
   |(with_reducible refine LeO.ite ?_ ?_)
   |(with_reducible refine LeO.bind ?_ (fun _=> ?_))
   |exact ih0 _ _ _ _
   |exact ih1 _ _ _ _ _ _ _
   |exact LeO.none _
   |refine LeO.ite ?_ ?_
   |refine LeO.bind ?_ (fun _=> ?_)
  ·
   intro y0 y1 y2 y3 y4 y5 y6;unfold Qbx.l1
   repeat' first
   |(with_reducible exact ih0 _ _ _ _)
   |(with_reducible exact ih1 _ _ _ _ _ _ _)
   |(with_reducible exact LeO.refl _)
   |(with_reducible exact LeO.none _)
   |(with_reducible refine LeO.ite ?_ ?_)
   |(with_reducible refine LeO.bind ?_ (fun _=> ?_))
   |exact ih0 _ _ _ _
   |exact ih1 _ _ _ _ _ _ _
   |exact LeO.none _
   |refine LeO.ite ?_ ?_
   |refine LeO.bind ?_ (fun _=> ?_)
theorem Qbx.mono : ∀ a0 k, LeO (Qbx.f k a0) (Qbx.f (k + 1) a0) := by
 intro a0 k;obtain ⟨ih0,ih1⟩:=Qbx.mono_l k;unfold Qbx.f
 repeat' first
  |(with_reducible exact ih0 _ _ _ _)
  |(with_reducible exact ih1 _ _ _ _ _ _ _)
  |(with_reducible exact LeO.refl _)
  |(with_reducible exact LeO.none _)
  |(with_reducible refine LeO.ite ?_ ?_)
  |(with_reducible refine LeO.bind ?_ (fun _=> ?_))
  |exact ih0 _ _ _ _
  |exact ih1 _ _ _ _ _ _ _
  |exact LeO.none _
  |refine LeO.ite ?_ ?_
  |refine LeO.bind ?_ (fun _=> ?_)
set_option maxHeartbeats 8000000 in
set_option maxRecDepth 100000 in
theorem Qbx.calls (k : Nat) (A0_0 : Option Addr) (c0_0 : Nat) (l0_0 : List Int) (r : Bool) (w : World) (hr0_0 : Kd.C (Kd.int .i64) w A0_0 l0_0.length l0_0) (hc0_0 : l0_0.length ≤ c0_0) (h : Qbx.f k l0_0 = some r) :
 Calls Try.prog 88 #[.agg #[.slice A0_0 l0_0.length c0_0]] w fun e w'=>e= .returned (.bool r)∧Below w.heap.size w w':=by
 have hu26:=Try.underlying26;have HR0_0:=Aside0.mk hr0_0;have HC0_0:=Aside0.mk hc0_0;clear hr0_0 hc0_0;have HB:=Aside0.mk (Below.refl w.heap.size w);have H:((Qcq.f (l0_0.length:Int) 1 10).bind fun t421=>(if t421=true then (Qbx.l0 k l0_0 (l0_0.length:Int) 0 l0_0) else (some false)))=some r:=h;clear h;replace H:=Option.bind_eq_some_iff.mp H;obtain ⟨t421,A20,H⟩:=H;replace H:(if t421=true then (Qbx.l0 k l0_0 (l0_0.length:Int) 0 l0_0) else (some false))=some r:=H;have A2:=Aside0.mk A20;clear A20
 by_cases c3:t421=true
 ·
  subst c3;have H1:(Qbx.l0 k l0_0 (l0_0.length:Int) 0 l0_0)=some r:=by rw [if_pos rfl] at H;exact H
  clear H;have H:=H1;clear H1;have H':=Aside0.mk H;clear H;go_enter Try.func88,Try.ntmps88;go_wp2_with (first|((with_reducible refine Qbb (N:=1) rfl ?_);refine Qbg ?hg (N:=1) ?hd (cs:= #[.slice A0_0 l0_0.length c0_0]) (t:=26) ?hr ?_;(case hd=>rfl);(case hg=>rfl);(case hr=>first|(go_simp;done)|(go_simp;rfl));intro gb420 hg w4 hbox hb;have BK420:=Aside0.mk (hbox);have GW420:=Aside0.mk ((by rw [hg];exact (Qq (by repeat (first|(with_reducible first|exact HB.out|apply Qc|apply Qa|apply Qd)|exact HB.out))):w.heap.size≤gb420));have GE420:=GW420;replace HB:=Aside0.mk (Qj (by repeat (first|(with_reducible first|exact HB.out|apply Qc|apply Qa|apply Qd)|exact HB.out)) hb);clear hb hbox hg;have hcz5_0:w4.cell? ⟨gb420,0,none⟩=some (.slice A0_0 l0_0.length c0_0):=(Qx BK420.out 0).trans rfl;have hfz5_0:=Qp BK420.out 0)|((with_reducible refine Qk (f:=95) rfl ?_);refine Q6 (some 11) rfl rfl Try.func95 (by kernel_rfl) rfl #[.int .i64 (l0_0.length:Int), .int .i64 1, .int .i64 10] rfl (by (try simp only [List.map_toArray,List.map_cons,List.map_nil]);first|done|rfl|(simp only [List.length_drop,List.length_take];rfl)) ?_;(with_reducible refine (Qcq.calls (l0_0.length:Int) 1 10 true _ A2.out).mono ?_);rintro e w' ⟨rfl,⟨nd,rfl⟩⟩;refine ⟨_,rfl,?_⟩))
  go_loopg [16] k (fun kq v16 w'=> ∃ (x16_1:Int),v16= .int .i64 x16_1∧Aside0 (Qbx.l0 kq l0_0 (l0_0.length:Int) x16_1 l0_0=some r)∧Aside0 (kq≤k)∧Aside0 (w'.heap[gb420]? =some (.cells #[(.slice A0_0 l0_0.length c0_0)] 26 (0,0)))∧Aside0 (Below w.heap.size w w'))
  case atStart=>exact ⟨(0),(by first|rfl|(simp;done)|(simp [*];done)),H',⟨Nat.le_refl _⟩,⟨by (with_reducible repeat (first|refine Qg ?_ _|refine Qh ?_|refine Qf ?_ _));exact BK420.out⟩,⟨by repeat (first|(with_reducible first|exact HB.out|apply Qc|apply Qa|apply Qd|refine Qe ?_ GE420.out)|exact HB.out)⟩⟩
  case round=>
   clear H'
   try clear p2
   try clear c3
   try clear hcz5_0
   try clear hfz5_0
   obtain ⟨x16_1,rfl,HA,HK1,BK420,HB⟩:=hrel;cases gk with
   |zero=>exact absurd HA.out (by simp [Qbx.l0])
   |succ k1=>
    have H:=HA.out;clear HA;simp only [Qbx.l0] at H
    by_cases c6:x16_1<(l0_0.length:Int)
    ·
     rw [if_pos c6] at H;have c6b0:decide (x16_1<(l0_0.length:Int))=true:=decide_eq_true c6;clear c6
     by_cases c7:0≤x16_1
     ·
      rw [if_pos c7] at H;have c7b0:decide (0≤x16_1)=true:=decide_eq_true c7;clear c7
      by_cases c8:x16_1<(l0_0.length:Int)
      ·
       rw [if_pos c8] at H;have c8b0:decide (x16_1<(l0_0.length:Int))=true:=decide_eq_true c8;clear c8;have c9b0:=eq_true (of_decide_eq_true (by first|(with_reducible assumption)|assumption):0≤x16_1);obtain ⟨ji10,hji10⟩: ∃ j_:Int,(shl .i64 1 x16_1)=j_:=⟨_,rfl⟩
       replace H:((Qcq.f (rd l0_0 x16_1) 0 (wrap64 ((ji10) - 1))).bind fun t423=>(if t423=true then (Qbx.l1 k1 x16_1 (rd l0_0 x16_1) 0 l0_0 (l0_0.length:Int) x16_1 l0_0) else (some false)))=some r:=by first|(rw [hji10] at H;exact H)|(simp only [hji10] at H ⊢;exact H)
       have hji10_:(IntKind.i64.wrap (1*2 ^ min x16_1.toNat 64))=ji10:=hji10;have hji10z:x16_1≤64→(IntKind.i64.wrap (1*2 ^ x16_1.toNat))=ji10:=Qez hji10;have hji10u:(IntKind.i64.wrap (2 ^ min x16_1.toNat 64))=ji10:=by have h_:=hji10_;rw [Int.one_mul] at h_;exact h_
       have hji10v:x16_1≤64→(IntKind.i64.wrap (2 ^ x16_1.toNat))=ji10:=fun hle_=>by have h_:=hji10z hle_;rw [Int.one_mul] at h_;exact h_
       have hji10y:(wrap64 (1*2 ^ min x16_1.toNat 64))=ji10:=(Qcb _).symm.trans hji10_;have hji10x:x16_1≤64→(wrap64 (1*2 ^ x16_1.toNat))=ji10:=fun h_=>(Qcb _).symm.trans (hji10z h_)
       replace H:=Option.bind_eq_some_iff.mp H;obtain ⟨t423,A110,H⟩:=H;replace H:(if t423=true then (Qbx.l1 k1 x16_1 (rd l0_0 x16_1) 0 l0_0 (l0_0.length:Int) x16_1 l0_0) else (some false))=some r:=H;have A11:=Aside0.mk A110;clear A110
       by_cases c12:t423=true
       ·
        subst c12;have H1:(Qbx.l1 k1 x16_1 (rd l0_0 x16_1) 0 l0_0 (l0_0.length:Int) x16_1 l0_0)=some r:=by rw [if_pos rfl] at H;exact H
        clear H;have H:=H1;clear H1;have H':=Aside0.mk H;clear H;have p422:0≤(x16_1:Int):=of_decide_eq_true (by first|(with_reducible assumption)|assumption);have q422:x16_1<(l0_0.length:Int):=of_decide_eq_true (by first|(with_reducible assumption)|assumption);obtain ⟨ad422,e422,hx422_0⟩:=Kd.at_int HR0_0.out x16_1 p422 q422;cases e422;replace hx422_0:=(HB.out.cell (World.block_lt_of_cell? w _ hx422_0)).trans hx422_0;replace p422:=eq_true p422;replace q422:=eq_true q422;go_wp2_with (first|((with_reducible refine Qk (f:=95) rfl ?_);refine Q6 (some 25) rfl rfl Try.func95 (by kernel_rfl) rfl #[.int .i64 (rd l0_0 x16_1), .int .i64 0, .int .i64 (wrap64 ((ji10) - 1))] rfl (by (try simp only [List.map_toArray,List.map_cons,List.map_nil]);first|done|(simp only [hji10];rfl)|rfl|(simp only [List.length_drop,List.length_take];rfl)) ?_;(with_reducible refine (Qcq.calls (rd l0_0 x16_1) 0 (wrap64 ((ji10) - 1)) true _ A11.out).mono ?_);rintro e w' ⟨rfl,⟨nd,rfl⟩⟩;refine ⟨_,rfl,?_⟩))
        go_loopg [6] k1 (fun kq v6 w'=> ∃ (x6_2:Int),v6= .int .i64 x6_2∧Aside0 (Qbx.l1 kq x16_1 (rd l0_0 x16_1) x6_2 l0_0 (l0_0.length:Int) x16_1 l0_0=some r)∧Aside0 (kq≤k1)∧Aside0 (w'.heap[gb420]? =some (.cells #[(.slice (some ad422) l0_0.length c0_0)] 26 (0,0)))∧Aside0 (Below w.heap.size w w'))
        case atStart=>exact ⟨(0),(by first|rfl|(simp;done)|(simp [*];done)),H',⟨Nat.le_refl _⟩,⟨by (with_reducible repeat (first|refine Qg ?_ _|refine Qh ?_|refine Qf ?_ _));exact BK420.out⟩,⟨by repeat (first|(with_reducible first|exact HB.out|apply Qc|apply Qa|apply Qd|refine Qe ?_ GE420.out)|exact HB.out)⟩⟩
        case round=>
         clear H'
         try clear c1
         try clear p2
         try clear c3
         try clear p4
         try clear q4
         try clear hx4
         try clear c6
         try clear c6b0
         try clear p6
         try clear c7
         try clear c7b0
         try clear c8
         try clear c8b0
         try clear c9
         try clear c9b0
         try clear c12
         try clear hcz5_0
         try clear hfz5_0
         try clear hx422_0
         try clear p2
         try clear p422
         try clear q422
         obtain ⟨x6_2,rfl,HA,HK2,BK420,HB⟩:=hrel;cases gk with
         |zero=>exact absurd HA.out (by simp [Qbx.l1])
         |succ k2=>
          have H:=HA.out;clear HA;simp only [Qbx.l1] at H
          by_cases c13:x6_2<x16_1
          ·
           rw [if_pos c13] at H;have c13b0:decide (x6_2<x16_1)=true:=decide_eq_true c13;clear c13
           by_cases c14:0≤x6_2
           ·
            rw [if_pos c14] at H;have c14b0:=eq_true c14;have c14b1:decide (0≤x6_2)=true:=decide_eq_true c14;clear c14;obtain ⟨ji15,hji15⟩: ∃ j_:Int,(shr .i64 (rd l0_0 x16_1) x6_2)=j_:=⟨_,rfl⟩
            replace H:(if (Int.tmod (ji15) 2)=1 then (if x6_2<(l0_0.length:Int) then (if (Go.bits .andNot .i64 (rd l0_0 x6_2) (rd l0_0 x16_1))=0 then (Qbx.l1 k2 x16_1 (rd l0_0 x16_1) (wrap64 (x6_2+1)) l0_0 (l0_0.length:Int) x16_1 l0_0) else (some false)) else (none)) else (Qbx.l1 k2 x16_1 (rd l0_0 x16_1) (wrap64 (x6_2+1)) l0_0 (l0_0.length:Int) x16_1 l0_0))=some r:=by first|(rw [hji15] at H;exact H)|(simp only [hji15] at H ⊢;exact H)
            have hji15_:((rd l0_0 x16_1) / 2 ^ min x6_2.toNat 64)=ji15:=hji15;have hji15z:x6_2≤64→((rd l0_0 x16_1) / 2 ^ x6_2.toNat)=ji15:=Qgr hji15
            by_cases c16:(Int.tmod (ji15) 2)=1
            ·
             rw [if_pos c16] at H;have c16b0:((Int.tmod (ji15) 2)==1)=true:=beq_iff_eq.mpr c16;have c16b1:((Int.tmod (ji15) 2) !=1)=false:=bne_eq_false_iff_eq.mpr c16;clear c16
             by_cases c17:x6_2<(l0_0.length:Int)
             ·
              rw [if_pos c17] at H;have c17b0:decide (x6_2<(l0_0.length:Int))=true:=decide_eq_true c17;clear c17
              by_cases c18:(Go.bits .andNot .i64 (rd l0_0 x6_2) (rd l0_0 x16_1))=0
              ·
               rw [if_pos c18] at H;have c18b0:((Go.bits .andNot .i64 (rd l0_0 x6_2) (rd l0_0 x16_1))==0)=true:=beq_iff_eq.mpr c18;have c18b1:((Go.bits .andNot .i64 (rd l0_0 x6_2) (rd l0_0 x16_1)) !=0)=false:=bne_eq_false_iff_eq.mpr c18;clear c18;have H':=Aside0.mk H;clear H;have hcz19_0:wr.cell? ⟨gb420,0,none⟩=some (.slice (some ad422) l0_0.length c0_0):=(Qx BK420.out 0).trans rfl;have hfz19_0:=Qp BK420.out 0;have p424:0≤(x6_2:Int):=of_decide_eq_true (by first|(with_reducible assumption)|assumption);have q424:x6_2<(l0_0.length:Int):=of_decide_eq_true (by first|(with_reducible assumption)|assumption);obtain ⟨ad424,e424,hx424_0⟩:=Kd.at_int HR0_0.out x6_2 p424 q424;obtain rfl:ad422=ad424:=(by injection e424)
               replace hx424_0:=(HB.out.cell (World.block_lt_of_cell? w _ hx424_0)).trans hx424_0;replace p424:=eq_true p424;replace q424:=eq_true q424;go_wp2;go_roundg k2
               case measure=>have:=HK1.out;have:=HK2.out;omega
               case rel=>exact ⟨(wrap64 (x6_2+1)),(by first|rfl|(simp;done)|(simp [*];done)),H',⟨by have:=HK1.out;have:=HK2.out;omega⟩,⟨by (with_reducible repeat (first|refine Qg ?_ _|refine Qh ?_|refine Qf ?_ _));exact BK420.out⟩,⟨by repeat (first|(with_reducible first|exact HB.out|apply Qc|apply Qa|apply Qd|refine Qe ?_ GE420.out)|exact HB.out)⟩⟩
              ·
               rw [if_neg c18] at H;have c18b0:((Go.bits .andNot .i64 (rd l0_0 x6_2) (rd l0_0 x16_1))==0)=false:=beq_eq_false_iff_ne.mpr c18;have c18b1:((Go.bits .andNot .i64 (rd l0_0 x6_2) (rd l0_0 x16_1)) !=0)=true:=bne_iff_ne.mpr c18;obtain rfl:=Option.some.inj H;have hcz20_0:wr.cell? ⟨gb420,0,none⟩=some (.slice (some ad422) l0_0.length c0_0):=(Qx BK420.out 0).trans rfl;have hfz20_0:=Qp BK420.out 0;have p424:0≤(x6_2:Int):=of_decide_eq_true (by first|(with_reducible assumption)|assumption);have q424:x6_2<(l0_0.length:Int):=of_decide_eq_true (by first|(with_reducible assumption)|assumption);obtain ⟨ad424,e424,hx424_0⟩:=Kd.at_int HR0_0.out x6_2 p424 q424;obtain rfl:ad422=ad424:=(by injection e424)
               replace hx424_0:=(HB.out.cell (World.block_lt_of_cell? w _ hx424_0)).trans hx424_0;replace p424:=eq_true p424;replace q424:=eq_true q424;go_wp2
               go_ret
               exact ⟨by first|rfl|(simp [Qm,Ql] <;>rfl)|(simp only [←hji10,←hji15];first|rfl|(simp [Qm,Ql] <;>rfl))|(simp [*,Qm,Ql] <;>rfl),by repeat (first|(with_reducible first|exact HB.out|apply Qc|apply Qa|apply Qd|refine Qe ?_ GE420.out)|exact HB.out)⟩
             ·
              rw [if_neg c17] at H;exact absurd H (by simp)
            ·
             rw [if_neg c16] at H;have c16b0:((Int.tmod (ji15) 2)==1)=false:=beq_eq_false_iff_ne.mpr c16;have c16b1:((Int.tmod (ji15) 2) !=1)=true:=bne_iff_ne.mpr c16;have H':=Aside0.mk H;clear H;go_wp2;go_roundg k2
             case measure=>have:=HK1.out;have:=HK2.out;omega
             case rel=>exact ⟨(wrap64 (x6_2+1)),(by first|rfl|(simp;done)|(simp [*];done)),H',⟨by have:=HK1.out;have:=HK2.out;omega⟩,⟨by (with_reducible repeat (first|refine Qg ?_ _|refine Qh ?_|refine Qf ?_ _));exact BK420.out⟩,⟨by repeat (first|(with_reducible first|exact HB.out|apply Qc|apply Qa|apply Qd|refine Qe ?_ GE420.out)|exact HB.out)⟩⟩
           ·
            rw [if_neg c14] at H;exact absurd H (by simp)
          ·
           rw [if_neg c13] at H;have c13b0:decide (x6_2<x16_1)=false:=decide_eq_false c13;clear c13;have H':=Aside0.mk H;clear H;go_wp2;go_roundg k2
           case measure=>have:=HK1.out;have:=HK2.out;omega
           case rel=>exact ⟨(wrap64 (x16_1+1)),(by first|rfl|(simp;done)|(simp [*];done)),H',⟨by have:=HK1.out;have:=HK2.out;omega⟩,⟨by (with_reducible repeat (first|refine Qg ?_ _|refine Qh ?_|refine Qf ?_ _));exact BK420.out⟩,⟨by repeat (first|(with_reducible first|exact HB.out|apply Qc|apply Qa|apply Qd|refine Qe ?_ GE420.out)|exact HB.out)⟩⟩
       ·
        replace c12:=Bool.eq_false_iff.mpr c12;subst c12;have H1:(some false)=some r:=by rw [if_neg (show ¬ (false=true) by decide)] at H;exact H
        clear H;have H:=H1;clear H1;obtain rfl:=Option.some.inj H;have p422:0≤(x16_1:Int):=of_decide_eq_true (by first|(with_reducible assumption)|assumption);have q422:x16_1<(l0_0.length:Int):=of_decide_eq_true (by first|(with_reducible assumption)|assumption);obtain ⟨ad422,e422,hx422_0⟩:=Kd.at_int HR0_0.out x16_1 p422 q422;cases e422;replace hx422_0:=(HB.out.cell (World.block_lt_of_cell? w _ hx422_0)).trans hx422_0;replace p422:=eq_true p422;replace q422:=eq_true q422;go_wp2_with (first|((with_reducible refine Qk (f:=95) rfl ?_);refine Q6 (some 25) rfl rfl Try.func95 (by kernel_rfl) rfl #[.int .i64 (rd l0_0 x16_1), .int .i64 0, .int .i64 (wrap64 ((ji10) - 1))] rfl (by (try simp only [List.map_toArray,List.map_cons,List.map_nil]);first|done|(simp only [hji10];rfl)|rfl|(simp only [List.length_drop,List.length_take];rfl)) ?_;(with_reducible refine (Qcq.calls (rd l0_0 x16_1) 0 (wrap64 ((ji10) - 1)) false _ A11.out).mono ?_);rintro e w' ⟨rfl,⟨nd,rfl⟩⟩;refine ⟨_,rfl,?_⟩))
        go_ret
        exact ⟨by first|rfl|(simp [Qm,Ql] <;>rfl)|(simp only [←hji10];first|rfl|(simp [Qm,Ql] <;>rfl))|(simp [*,Qm,Ql] <;>rfl),by repeat (first|(with_reducible first|exact HB.out|apply Qc|apply Qa|apply Qd|refine Qe ?_ GE420.out)|exact HB.out)⟩
      ·
       rw [if_neg c8] at H;exact absurd H (by simp)
     ·
      rw [if_neg c7] at H;exact absurd H (by simp)
    ·
     rw [if_neg c6] at H;have c6b0:decide (x16_1<(l0_0.length:Int))=false:=decide_eq_false c6;clear c6;obtain rfl:=Option.some.inj H;go_wp2
     go_ret
     exact ⟨by first|rfl|(simp [Qm,Ql] <;>rfl)|(simp [*,Qm,Ql] <;>rfl),by repeat (first|(with_reducible first|exact HB.out|apply Qc|apply Qa|apply Qd|refine Qe ?_ GE420.out)|exact HB.out)⟩
 ·
  replace c3:=Bool.eq_false_iff.mpr c3;subst c3;have H1:(some false)=some r:=by rw [if_neg (show ¬ (false=true) by decide)] at H;exact H
  clear H;have H:=H1;clear H1;obtain rfl:=Option.some.inj H;go_enter Try.func88,Try.ntmps88;go_wp2_with (first|((with_reducible refine Qbb (N:=1) rfl ?_);refine Qbg ?hg (N:=1) ?hd (cs:= #[.slice A0_0 l0_0.length c0_0]) (t:=26) ?hr ?_;(case hd=>rfl);(case hg=>rfl);(case hr=>first|(go_simp;done)|(go_simp;rfl));intro gb420 hg w21 hbox hb;have BK420:=Aside0.mk (hbox);have GW420:=Aside0.mk ((by rw [hg];exact (Qq (by repeat (first|(with_reducible first|exact HB.out|apply Qc|apply Qa|apply Qd)|exact HB.out))):w.heap.size≤gb420));have GE420:=GW420;replace HB:=Aside0.mk (Qj (by repeat (first|(with_reducible first|exact HB.out|apply Qc|apply Qa|apply Qd)|exact HB.out)) hb);clear hb hbox hg;have hcz22_0:w21.cell? ⟨gb420,0,none⟩=some (.slice A0_0 l0_0.length c0_0):=(Qx BK420.out 0).trans rfl;have hfz22_0:=Qp BK420.out 0)|((with_reducible refine Qk (f:=95) rfl ?_);refine Q6 (some 11) rfl rfl Try.func95 (by kernel_rfl) rfl #[.int .i64 (l0_0.length:Int), .int .i64 1, .int .i64 10] rfl (by (try simp only [List.map_toArray,List.map_cons,List.map_nil]);first|done|rfl|(simp only [List.length_drop,List.length_take];rfl)) ?_;(with_reducible refine (Qcq.calls (l0_0.length:Int) 1 10 false _ A2.out).mono ?_);rintro e w' ⟨rfl,⟨nd,rfl⟩⟩;refine ⟨_,rfl,?_⟩))
  go_ret
  exact ⟨by first|rfl|(simp [Qm,Ql] <;>rfl)|(simp [*,Qm,Ql] <;>rfl),by repeat (first|(with_reducible first|exact HB.out|apply Qc|apply Qa|apply Qd|refine Qe ?_ GE420.out)|exact HB.out)⟩
def Qdd.f (a0 : Int) : Option (Bool) := (Qcq.f a0 0 20).bind fun t425 => (some t425)
set_option maxHeartbeats 8000000 in
set_option maxRecDepth 100000 in
theorem Qdd.calls (a0 : Int) (r : Bool) (w : World) (h : Qdd.f a0 = some r) :
 Calls Try.prog 89 #[.int .i64 a0] w fun e w'=>e= .returned (.bool r)∧Drawn0 w w':=by
 have H:((Qcq.f a0 0 20).bind fun t425=>(some t425))=some r:=h;clear h;replace H:=Option.bind_eq_some_iff.mp H;obtain ⟨t425,A20,H⟩:=H;replace H:(some t425)=some r:=H;have A2:=Aside0.mk A20;clear A20;obtain rfl:=Option.some.inj H;go_enter Try.func89,Try.ntmps89;go_wp2_with (first|((with_reducible refine Qk (f:=95) rfl ?_);refine Q6 (some 4) rfl rfl Try.func95 (by kernel_rfl) rfl #[.int .i64 a0, .int .i64 0, .int .i64 20] rfl (by (try simp only [List.map_toArray,List.map_cons,List.map_nil]);first|done|rfl|(simp only [List.length_drop,List.length_take];rfl)) ?_;(with_reducible refine (Qcq.calls a0 0 20 t425 _ A2.out).mono ?_);rintro e w' ⟨rfl,⟨nd,rfl⟩⟩;refine ⟨_,rfl,?_⟩))
 go_ret
 exact ⟨by first|rfl|(simp;done)|(simp [*];done),by repeat (first|exact Drawn0.refl _|apply Drawn0.step)⟩
end Go.Proofs.Ytkgngggppcmpfaa.L
end
