/- Laws about the given program: the law FnExactPromotionStabilizers answers true for every input that its row lets in; no condition is added to the given statement. Contracts of the Go functions that it reaches, and the plain proof over lists. -/
import Derived.Test.YtldbabadbggleaaWFnExactPromotionStabilizers0
import Derived.Test.YtldbabadbggleaaKFnExactPromotionStabilizers0
import Derived.Test.YtldbabadbggleaaKFnExactPromotionStabilizers1
import Derived.Test.YtldbabadbggleaaKFnExactPromotionStabilizers2
import Derived.Test.YtldbabadbggleaaKFnExactPromotionStabilizers3
section
namespace Go.Proofs.Ytldbabadbggleaa.L
open Go.RowKit Go.Proofs.YtldbabadbggleaaW.PrintWords Go.Proofs.YtldbabadbggleaaW.PrintLast Go.Proofs.YtldbabadbggleaaW.PrintMore
attribute [local go_sem] max2_int min2_int max_two min_two max_three min_three max_four min_four
set_option linter.unusedVariables false
set_option linter.unusedSimpArgs false
def spec_PromotionStabilizers.inn (k : Nat) (p x : List Int) : Nat → List Int → Nat → List Int → Option (Nat × List Int)
  | 0, _, _, _ => none
  | q + 1, now, n, seen => (if n = 0 then some false else spec_l1Same.f k now x).bind fun b => if b = true then some (n, seen) else (spec_RankLinear.f k p now).bind fun t => if seen.length < 17592186044416 ∧ n < 1000000 then (spec_liPromote.f k p now 1).bind fun y => spec_PromotionStabilizers.inn k p x q y (n + 1) (seen ++ [t.1]) else none
def spec_PromotionStabilizers.go (k : Nat) (p : List Int) (ab : Int) : List (List Int) → Nat → List Int → List Int → Option (List Int)
  | [], _, out, _ => some out
  | x :: ws, i, out, seen => (spec_l1Has.f k seen (i : Int)).bind fun h => if h = true then spec_PromotionStabilizers.go k p ab ws (i + 1) out seen else (spec_PromotionStabilizers.inn k p x k x 0 seen).bind fun t => if 1 ≤ t.1 then (spec_svPut.f k out (ab / (t.1 : Int))).bind fun o => spec_PromotionStabilizers.go k p ab ws (i + 1) o t.2 else none
def spec_PromotionStabilizers.f (k : Nat) (a b : Int) : Option (List Int × Bool) := (spec_shSides.f a b).bind fun s => if s = true then (if 0 ≤ a ∧ a ≤ 10 ∧ 0 ≤ b ∧ b ≤ 10 then (spec_poRectangle.f k a b).bind fun p => (spec_liAll.f k p).bind fun t => if t.1.length ≤ 1000000 then (spec_PromotionStabilizers.go k p (a * b) t.1 0 [] []).bind fun o => some (o, true) else none else none) else some ([], false)
theorem spec_PromotionStabilizers.inn_mono (k : Nat) (p x : List Int) : ∀ q now n seen, LeO (spec_PromotionStabilizers.inn k p x q now n seen) (spec_PromotionStabilizers.inn (k + 1) p x (q + 1) now n seen)
  | 0, _, _, _ => fun r h => by cases h
  | q + 1, now, n, seen => by
    rw [spec_PromotionStabilizers.inn, spec_PromotionStabilizers.inn]
    exact LeO.bind (LeO.ite (LeO.refl _) (spec_l1Same.mono _ _ _)) fun b => LeO.ite (LeO.refl _) (LeO.bind (spec_RankLinear.mono _ _ _) fun t => LeO.ite (LeO.bind (spec_liPromote.mono _ _ _ _) fun y => spec_PromotionStabilizers.inn_mono k p x q _ _ _) (LeO.refl _))
theorem spec_PromotionStabilizers.go_mono (k : Nat) (p : List Int) (ab : Int) : ∀ ws i out seen, LeO (spec_PromotionStabilizers.go k p ab ws i out seen) (spec_PromotionStabilizers.go (k + 1) p ab ws i out seen)
  | [], _, _, _ => LeO.refl _
  | x :: ws, i, out, seen => by
    rw [spec_PromotionStabilizers.go, spec_PromotionStabilizers.go]
    exact LeO.bind (spec_l1Has.mono _ _ _) fun h => LeO.ite (spec_PromotionStabilizers.go_mono k p ab ws _ _ _) (LeO.bind (spec_PromotionStabilizers.inn_mono k p x k _ _ _) fun t => LeO.ite (LeO.bind (spec_svPut.mono _ _ _) fun o => spec_PromotionStabilizers.go_mono k p ab ws _ _ _) (LeO.refl _))
theorem spec_PromotionStabilizers.mono : ∀ a0 a1 k, LeO (spec_PromotionStabilizers.f k a0 a1) (spec_PromotionStabilizers.f (k + 1) a0 a1) := by
  intro a b k
  unfold spec_PromotionStabilizers.f
  exact LeO.bind (LeO.refl _) fun s => LeO.ite (LeO.ite (LeO.bind (spec_poRectangle.mono _ _ _) fun p => LeO.bind (spec_liAll.mono _ _) fun t => LeO.ite (LeO.bind (spec_PromotionStabilizers.go_mono k p _ _ _ _ _) fun o => LeO.refl _) (LeO.refl _)) (LeO.refl _)) (LeO.refl _)
open Go.Proofs.Ytldbabadbggleaa.X in
theorem spec_PromotionStabilizers.row {W : World} {base : Nat} {ok : Nat → Prop} {ad : Addr} {n c : Nat} {xs : List (List Int)} (h : Kd.V (Kd.slice 3 (Kd.int .i64)) 22 W base ok (.slice (some ad) n c) xs) (i : Nat) (hi : i < xs.length) :
    ∃ A1 c1, W.cell? (ad.add i) = some (.slice A1 xs[i].length c1) ∧ Kd.V (Kd.int .i64) 3 W base ok (.slice A1 xs[i].length c1) xs[i] := by
  have hn := (Kd.V_at h).1
  obtain ⟨cs, _, hK, hc⟩ := Kd.V_get h ([] : List Int) (i : Int) (by omega) (by omega)
  rw [Int.toNat_natCast] at hK hc
  have e : xs.getD i [] = xs[i] := by simp [List.getD_eq_getElem?_getD, hi]
  rw [e] at hK
  obtain ⟨A1, c1, rfl, hl, hF⟩ := Kd.FK_slice_open hK
  have hq := hc 0 _ rfl
  have e1 : i * (Kd.slice 3 (Kd.int .i64)).sz + 0 = i := by show i * 1 + 0 = i; omega
  rw [e1] at hq
  exact ⟨A1, c1, hq, Kd.V_mk hl hF⟩
open Go.Proofs.Ytldbabadbggleaa.X in
set_option maxHeartbeats 3200000 in
set_option maxRecDepth 100000 in
theorem spec_PromotionStabilizers.calls (k : Nat) (a0 : Int) (a1 : Int) (r1 : List Int) (r2 : Bool) (w : World) (h : spec_PromotionStabilizers.f k a0 a1 = some (r1, r2)) :
    Calls Try.prog 23 #[.int .i64 a0, .int .i64 a1] w fun e w' => ∃ v0_ : Value, e = .returned (.tuple #[v0_, .bool r2]) ∧ Kd.R (Kd.int .i64) 3 w' w.heap.size (fun _ => True) v0_ r1 ∧ Below w.heap.size w w' := by
  unfold spec_PromotionStabilizers.f at h
  obtain ⟨s, hs, h⟩ := Option.bind_eq_some_iff.mp h
  have HS := Aside0.mk hs
  have hu := Try.underlying29
  clear hs
  by_cases hb : s = true
  · rw [if_pos hb] at h
    subst hb
    split at h
    · rename_i hab
      obtain ⟨p, hp, h⟩ := Option.bind_eq_some_iff.mp h
      obtain ⟨⟨all, bA⟩, hA, h⟩ := Option.bind_eq_some_iff.mp h
      split at h
      · rename_i hlen
        obtain ⟨o, ho, h⟩ := Option.bind_eq_some_iff.mp h
        simp only [Option.some.injEq, Prod.mk.injEq] at h
        obtain ⟨rfl, rfl⟩ := h
        have HP := Aside0.mk hp
        have HA := Aside0.mk hA
        have HG := Aside0.mk ho
        have HLN := Aside0.mk (show all.length ≤ 1000000 from hlen)
        have HAB := Aside0.mk (show 0 ≤ a0 * a1 ∧ a0 * a1 ≤ 100 from ⟨Int.mul_nonneg hab.1 hab.2.2.1, Int.le_trans (Int.mul_le_mul hab.2.1 hab.2.2.2 hab.2.2.1 (by omega)) (by omega)⟩)
        clear hp hA ho hlen hab
        go_enter Try.func23, Try.ntmps23
        go_wp2_with (first | (go_at_call 34; refine (spec_shSides.calls a0 a1 true _ HS.out).mono ?_; rintro e w1 ⟨rfl, ⟨nd, rfl⟩⟩) | (go_at_call 41; refine (spec_poRectangle.calls k a0 a1 p _ HP.out).mono ?_; rintro e w2 ⟨vP, rfl, hr, hb⟩; have B2 := Aside0.mk (below_to (pw_below_drewN (Below.refl w.heap.size w) nd) hb); obtain ⟨Ap, cp, rfl⟩ := Kd.R_slice hr; have RP := Aside0.mk hr; clear hr hb) | (go_at_call 44; refine (spec_liAll.calls k Ap cp p all bA _ (Kd.C_below (Kd.R_reads' RP.out).2.2 (below_alloc (Below.refl _ _) _)) (Kd.R_reads' RP.out).2.1 HA.out).mono ?_; rintro e w3 ⟨vA, rfl, hs, hb⟩; have B3 := Aside0.mk (below_to (below_alloc B2.out (.cells #[.slice Ap p.length cp] 29)) hb); have BP := Aside0.mk (show w3.heap[w2.heap.size]? = some (.cells #[.slice Ap p.length cp] 29 (0, 0)) from blk_below (blk_new _ _) hb); have VP := Aside0.mk (Kd.V_apart_nil (Kd.V_below (Kd.V_below (Kd.R_V (base' := w.heap.size) RP.out) (below_alloc (Below.refl _ _) (.cells #[.slice Ap p.length cp] 29))) hb)); have VA := Aside0.mk (Kd.V_apart_nil (Kd.S_V (base' := w.heap.size) hs)); obtain ⟨AA, cA, eA⟩ := Kd.V_slice VA.out; subst eA; clear hs hb))
        go_loopw [9, 10, 31] (fun v9 v10 v31 wr => ∃ (i : Nat) (out seen : List Int), v31 = .int .i64 (i : Int) ∧ i ≤ all.length ∧ Aside0 (spec_PromotionStabilizers.go k p (a0 * a1) (all.drop i) i out seen = some o) ∧ Aside0 (Kd.R (Kd.int .i64) 3 wr w.heap.size (fun k_ => True ∧ some k_ ≠ (v10 : Value).ownBlock) v9 out) ∧ Aside0 (Kd.R (Kd.int .i64) 3 wr w.heap.size (fun _ => True) v10 seen) ∧ Aside0 (Kd.V (Kd.int .i64) 3 wr w.heap.size (fun k_ => True ∧ some k_ ≠ (v10 : Value).ownBlock) (.slice Ap p.length cp) p) ∧ Aside0 (Kd.V (Kd.slice 3 (Kd.int .i64)) 22 wr w.heap.size (fun k_ => True ∧ some k_ ≠ (v10 : Value).ownBlock) (.slice AA all.length cA) all) ∧ Aside0 (wr.heap[w2.heap.size]? = some (.cells #[.slice Ap p.length cp] 29 (0, 0))) ∧ Aside0 (Below w.heap.size w wr)) (fun _ _ v31 _ => all.length - (intOf v31).toNat)
        case atStart => exact ⟨0, [], [], rfl, Nat.zero_le _, ⟨by rw [List.drop_zero]; exact HG.out⟩, ⟨Kd.R_nil _ _ _ _ _⟩, ⟨Kd.R_nil _ _ _ _ _⟩, VP, VA, BP, B3⟩
        case round =>
          clear VP VA BP B3 HG RP B2
          obtain ⟨i, out, seen, rfl, hi, HG, HO, HN, VP, VA, BP, HB⟩ := hrel
          have e2 : wrap64 ((i : Int) + 1) = ((i + 1 : Nat) : Int) := by have := HLN.out; unfold wrap64; omega
          have zP := blk_cell BP.out 0
          by_cases hlt : i < all.length
          · have hG := HG.out
            rw [List.drop_eq_getElem_cons hlt, spec_PromotionStabilizers.go] at hG
            obtain ⟨hh, hhas, hG⟩ := Option.bind_eq_some_iff.mp hG
            obtain ⟨ad, eA2⟩ : ∃ ad, AA = some ad := by
              obtain ⟨ad, _, _, e, _⟩ := row_at (Kd.V_reads' VA.out).2.2 i hlt
              exact ⟨ad, e⟩
            subst eA2
            obtain ⟨A1, c1, hx, hV1⟩ := spec_PromotionStabilizers.row VA.out i hlt
            obtain ⟨x, hxe⟩ : ∃ x, x = all[i] := ⟨_, rfl⟩
            rw [← hxe] at hx hV1 hG
            have V1 := Aside0.mk hV1
            have HH := Aside0.mk hhas
            obtain ⟨As, cs, es⟩ := Kd.R_slice HN.out
            subst es
            clear hxe hV1 hhas
            have p1 : 0 ≤ ((i : Nat) : Int) := by omega
            have q1 : ((i : Nat) : Int) < (all.length : Int) := by omega
            by_cases hc : hh = true
            · rw [if_pos hc] at hG
              subst hc
              have HG2 := Aside0.mk hG
              clear hG HG
              go_wp2_with (first | (go_at_call 45; refine (spec_l1Has.calls k As cs seen (i : Int) true _ (Kd.R_reads' HN.out).2.2 (Kd.R_reads' HN.out).2.1 HH.out).mono ?_; rintro e w4 ⟨rfl, ⟨nd, rfl⟩⟩))
              go_roundw
              case rel => exact ⟨i + 1, out, seen, by first | rfl | go_num, by omega, HG2, ⟨Kd.R_drewN HO.out _⟩, ⟨Kd.R_drewN HN.out _⟩, ⟨Kd.V_drewN VP.out _⟩, ⟨Kd.V_drewN VA.out _⟩, ⟨blk_drewN BP.out _⟩, ⟨pw_below_drewN HB.out _⟩⟩
              case measure => (try simp only [e2]); exact (Nat.sub_lt_sub_left (by omega) (Nat.lt_succ_self i) : all.length - (i + 1) < all.length - i)
            · rw [if_neg hc] at hG
              have hc : hh = false := by simpa using hc
              subst hc
              obtain ⟨⟨n1, seen1⟩, hinn, hG⟩ := Option.bind_eq_some_iff.mp hG
              split at hG
              · rename_i hn1
                obtain ⟨o1, ho1, hG⟩ := Option.bind_eq_some_iff.mp hG
                have HI := Aside0.mk hinn
                have HO1 := Aside0.mk ho1
                have HG2 := Aside0.mk hG
                have HN1 := Aside0.mk (show 1 ≤ n1 from hn1)
                clear hinn ho1 hG hn1 HG
                go_wp2_with (first | (go_at_call 45; refine (spec_l1Has.calls k As cs seen (i : Int) false _ (Kd.R_reads' HN.out).2.2 (Kd.R_reads' HN.out).2.1 HH.out).mono ?_; rintro e w4 ⟨rfl, ⟨nd, rfl⟩⟩))
                (try simp only [Act.put, List.setIfInBounds_toArray, List.set_cons_zero, List.set_cons_succ])
                go_loopg [10, 13, 14] k (fun kq v10 v13 v14 wi => ∃ (now seen2 : List Int) (n : Nat), v13 = .int .i64 (n : Int) ∧ Aside0 (spec_PromotionStabilizers.inn k p x kq now n seen2 = some (n1, seen1)) ∧ Aside0 (kq ≤ k) ∧ Aside0 (n ≤ 1000000) ∧ Aside0 (Kd.V (Kd.int .i64) 3 wi w.heap.size (fun k_ => True ∧ some k_ ≠ (v10 : Value).ownBlock) v14 now) ∧ Aside0 (Kd.R (Kd.int .i64) 3 wi w.heap.size (fun k_ => True ∧ some k_ ≠ (v10 : Value).ownBlock) u9 out) ∧ Aside0 (Kd.R (Kd.int .i64) 3 wi w.heap.size (fun _ => True) v10 seen2) ∧ Aside0 (Kd.V (Kd.int .i64) 3 wi w.heap.size (fun k_ => True ∧ some k_ ≠ (v10 : Value).ownBlock) (.slice Ap p.length cp) p) ∧ Aside0 (Kd.V (Kd.int .i64) 3 wi w.heap.size (fun k_ => True ∧ some k_ ≠ (v10 : Value).ownBlock) (.slice A1 x.length c1) x) ∧ Aside0 (Kd.V (Kd.slice 3 (Kd.int .i64)) 22 wi w.heap.size (fun k_ => True ∧ some k_ ≠ (v10 : Value).ownBlock) (.slice (some ad) all.length cA) all) ∧ Aside0 (wi.heap[w2.heap.size]? = some (.cells #[.slice Ap p.length cp] 29 (0, 0))) ∧ Aside0 (Below w.heap.size w wi))
                case atStart => exact ⟨x, seen, 0, rfl, HI, ⟨Nat.le_refl _⟩, ⟨by omega⟩, ⟨Kd.V_drewN V1.out _⟩, ⟨Kd.R_drewN HO.out _⟩, ⟨Kd.R_drewN HN.out _⟩, ⟨Kd.V_drewN VP.out _⟩, ⟨Kd.V_drewN V1.out _⟩, ⟨Kd.V_drewN VA.out _⟩, ⟨blk_drewN BP.out _⟩, ⟨pw_below_drewN HB.out _⟩⟩
                case round =>
                  clear HI VP VA BP HB V1 HO HN zP
                  obtain ⟨now, seen2, n, rfl, HI, HK1, HNL, VN, HO, HN, VP, V1, VA, BP, HB⟩ := hrel
                  cases gk with
                  | zero => exact absurd HI.out (by simp [spec_PromotionStabilizers.inn])
                  | succ q =>
                    have hI := HI.out
                    rw [spec_PromotionStabilizers.inn] at hI
                    obtain ⟨bb, hbb, hI⟩ := Option.bind_eq_some_iff.mp hI
                    obtain ⟨An, cn, en⟩ := Kd.V_slice VN.out
                    subst en
                    obtain ⟨As2, cs2, es2⟩ := Kd.R_slice HN.out
                    subst es2
                    have zP := blk_cell BP.out 0
                    clear HI
                    have HLT := Aside0.mk hlt
                    have e3 : wrap64 ((n : Int) + 1) = ((n + 1 : Nat) : Int) := by have := HNL.out; unfold wrap64; omega
                    by_cases hc2 : bb = true
                    · subst hc2
                      rw [if_pos rfl] at hI
                      simp only [Option.some.injEq, Prod.mk.injEq] at hI
                      obtain ⟨rfl, rfl⟩ := hI
                      have hn0 : n ≠ 0 := by have := HN1.out; omega
                      rw [if_neg hn0] at hbb
                      have HS2 := Aside0.mk hbb
                      have n0 : ((n : Int) == 0) = false := by rw [beq_eq_false_iff_ne]; omega
                      have n1_ : 0 < (n : Int) := by omega
                      have ab0 := HAB.out.1
                      have ab1 := HAB.out.2
                      obtain ⟨Ao, co, eo⟩ := Kd.R_slice HO.out
                      subst eo
                      clear hbb hn0
                      go_wp2_with (first | (go_at_call 46; refine (spec_l1Same.calls k An cn now A1 c1 x true _ (Kd.V_reads' VN.out).2.2 (Kd.V_reads' VN.out).2.1 (Kd.V_reads' V1.out).2.2 (Kd.V_reads' V1.out).2.1 HS2.out).mono ?_; rintro e w5 ⟨rfl, ⟨nd2, rfl⟩⟩) | (go_at_call 49; refine (spec_svPut.calls k Ao co out _ o1 _ (Kd.R_reads' (Kd.R_drewN HO.out _)).2.2 (Kd.R_reads' HO.out).2.1 HO1.out).mono ?_; rintro e w6 ⟨v69, rfl, hr, hb⟩; have HB6 := Aside0.mk (below_to (pw_below_drewN HB.out nd2) hb); have HN6 := Aside0.mk (Kd.R_below (Kd.R_drewN HN.out nd2) hb); have VP6 := Aside0.mk (Kd.V_below (Kd.V_drewN VP.out nd2) hb); have VA6 := Aside0.mk (Kd.V_below (Kd.V_drewN VA.out nd2) hb); have BP6 := Aside0.mk (blk_below (blk_drewN BP.out nd2) hb); have HO6 := Aside0.mk (show Kd.R (Kd.int .i64) 3 w6 w.heap.size (fun k_ => True ∧ some k_ ≠ (Value.slice As2 seen2.length cs2).ownBlock) v69 o1 from Kd.R_lower (Kd.R_mono (Kd.R_bound hr) (fun k_ hk => ⟨trivial, fun e => by have := Kd.R_lt (Kd.R_drewN HN.out nd2) k_ e.symm; have := hk.2.1; omega⟩)) (pw_below_drewN HB.out nd2).size); clear hr hb))
                      go_roundw
                      case rel => exact ⟨i + 1, o1, seen2, by first | rfl | go_num, by have := HLT.out; omega, HG2, HO6, HN6, VP6, VA6, BP6, HB6⟩
                      case measure => (try simp only [e2]); have := HLT.out; exact (Nat.sub_lt_sub_left (by omega) (Nat.lt_succ_self i) : all.length - (i + 1) < all.length - i)
                    · rw [if_neg hc2] at hI
                      have hc2 : bb = false := by simpa using hc2
                      subst hc2
                      obtain ⟨⟨t1, t2⟩, hrl, hI⟩ := Option.bind_eq_some_iff.mp hI
                      split at hI
                      · rename_i hsl
                        obtain ⟨y, hpr, hI⟩ := Option.bind_eq_some_iff.mp hI
                        have HRL := Aside0.mk hrl
                        have HSL := Aside0.mk hsl.1
                        have HNB := Aside0.mk hsl.2
                        have HPR := Aside0.mk hpr
                        have HI2 := Aside0.mk hI
                        clear hrl hsl hpr hI
                        by_cases hn0 : n = 0
                        · have n0 : ((n : Int) == 0) = true := by rw [hn0]; rfl
                          clear hbb hn0
                          go_wp2_with (first | (go_at_call 48; refine (spec_RankLinear.calls k Ap cp p An cn now t1 t2 _ (Kd.V_reads' VP.out).2.2 (Kd.V_reads' VP.out).2.1 (Kd.V_reads' VN.out).2.2 (Kd.V_reads' VN.out).2.1 HRL.out).mono ?_; rintro e w6 ⟨rfl, hb⟩; have HB6 := Aside0.mk (below_to HB.out hb); have HN6 := Aside0.mk (Kd.R_below HN.out hb); have HO6 := Aside0.mk (Kd.R_below HO.out hb); have VP6 := Aside0.mk (Kd.V_below VP.out hb); have VA6 := Aside0.mk (Kd.V_below VA.out hb); have V16 := Aside0.mk (Kd.V_below V1.out hb); have VN6 := Aside0.mk (Kd.V_below VN.out hb); have BP6 := Aside0.mk (blk_below BP.out hb); have zP6 := blk_cell BP6.out 0; clear hb) | ((with_reducible refine gate_builtin (b := .append) (xs := #[.tmp 57, .tmp 59]) rfl ?_); at_builtin; refine Kd.R_append (Kd.int .i64) (w0 := w) w.heap.size rfl (.tmp 57) (.tmp 59) 22 3 (.int .i64 0) 8 rfl Try.underlying22 info3 rfl (by decide) (by omega) (.slice As2 seen2.length cs2) seen2 t1 [.int .i64 t1] (fun _ => True) (fun _ => False) rfl rfl ?aP (fun _ hk => hk.elim) ?aF ?aO ?aB ?aS ?aL ?_; (case aP => exact rfl); (case aF => exact fun _ _ => trivial); (case aO => exact HN6.out); (case aB => exact HB6.out); (case aS => exact HB6.out.size); (case aL => have := HSL.out; omega); intro v60 w7 ho hb hg hat; have HN7 := Aside0.mk ho; have HB7 := Aside0.mk hb; have HO7 := Aside0.mk (Kd.R_after (ok := fun _ => True) HO6.out hg hat); have VP7 := Aside0.mk (Kd.V_after VP6.out hg hat); have VA7 := Aside0.mk (Kd.V_after VA6.out hg hat); have V17 := Aside0.mk (Kd.V_after V16.out hg hat); have VN7 := Aside0.mk (Kd.V_after VN6.out hg hat); have BP7 := Aside0.mk (blk_grown BP6.out hg (Kd.R_ne HN6.out BP6.out (by decide))); have zP7 := blk_cell BP7.out 0; clear ho hb hg hat) | (go_at_call 47; refine (spec_liPromote.calls k Ap cp p _ An cn now 1 y _ (Kd.V_reads' VP7.out).2.2 (Kd.V_reads' VP7.out).2.1 VN7.out HPR.out).mono ?_; rintro e w8 ⟨v50, rfl, hr, hb⟩; have HB8 := Aside0.mk (below_to HB7.out hb); have HN8 := Aside0.mk (Kd.R_below HN7.out hb); have HO8 := Aside0.mk (Kd.R_below HO7.out hb); have VP8 := Aside0.mk (Kd.V_below VP7.out hb); have VA8 := Aside0.mk (Kd.V_below VA7.out hb); have V18 := Aside0.mk (Kd.V_below V17.out hb); have BP8 := Aside0.mk (blk_below BP7.out hb); have VY8 := Aside0.mk (show Kd.V (Kd.int .i64) 3 w8 w.heap.size (fun k_ => True ∧ some k_ ≠ (v60 : Value).ownBlock) v50 y from Kd.V_mono (Kd.R_V (ok := fun k_ => w7.heap.size ≤ k_) hr) (fun k_ hk => ⟨trivial, fun e => by have := Kd.R_lt HN7.out k_ e.symm; omega⟩)); clear hr hb))
                          go_roundg q
                          case measure => have := HK1.out; omega
                          case rel => exact ⟨y, seen2 ++ [t1], n + 1, by first | rfl | go_num, HI2, ⟨by have := HK1.out; omega⟩, ⟨by have := HNB.out; omega⟩, VY8, HO8, HN8, VP8, V18, VA8, BP8, HB8⟩
                        · rw [if_neg hn0] at hbb
                          have HS2 := Aside0.mk hbb
                          have n0 : ((n : Int) == 0) = false := by rw [beq_eq_false_iff_ne]; omega
                          clear hbb hn0
                          go_wp2_with (first | (go_at_call 46; refine (spec_l1Same.calls k An cn now A1 c1 x false _ (Kd.V_reads' VN.out).2.2 (Kd.V_reads' VN.out).2.1 (Kd.V_reads' V1.out).2.2 (Kd.V_reads' V1.out).2.1 HS2.out).mono ?_; rintro e w5 ⟨rfl, ⟨nd2, rfl⟩⟩) | (go_at_call 48; refine (spec_RankLinear.calls k Ap cp p An cn now t1 t2 _ (Kd.V_reads' (Kd.V_drewN VP.out nd2)).2.2 (Kd.V_reads' VP.out).2.1 (Kd.V_reads' (Kd.V_drewN VN.out nd2)).2.2 (Kd.V_reads' VN.out).2.1 HRL.out).mono ?_; rintro e w6 ⟨rfl, hb⟩; have HB6 := Aside0.mk (below_to (pw_below_drewN HB.out nd2) hb); have HN6 := Aside0.mk (Kd.R_below (Kd.R_drewN HN.out nd2) hb); have HO6 := Aside0.mk (Kd.R_below (Kd.R_drewN HO.out nd2) hb); have VP6 := Aside0.mk (Kd.V_below (Kd.V_drewN VP.out nd2) hb); have VA6 := Aside0.mk (Kd.V_below (Kd.V_drewN VA.out nd2) hb); have V16 := Aside0.mk (Kd.V_below (Kd.V_drewN V1.out nd2) hb); have VN6 := Aside0.mk (Kd.V_below (Kd.V_drewN VN.out nd2) hb); have BP6 := Aside0.mk (blk_below (blk_drewN BP.out nd2) hb); have zP6 := blk_cell BP6.out 0; clear hb) | ((with_reducible refine gate_builtin (b := .append) (xs := #[.tmp 57, .tmp 59]) rfl ?_); at_builtin; refine Kd.R_append (Kd.int .i64) (w0 := w) w.heap.size rfl (.tmp 57) (.tmp 59) 22 3 (.int .i64 0) 8 rfl Try.underlying22 info3 rfl (by decide) (by omega) (.slice As2 seen2.length cs2) seen2 t1 [.int .i64 t1] (fun _ => True) (fun _ => False) rfl rfl ?aP (fun _ hk => hk.elim) ?aF ?aO ?aB ?aS ?aL ?_; (case aP => exact rfl); (case aF => exact fun _ _ => trivial); (case aO => exact HN6.out); (case aB => exact HB6.out); (case aS => exact HB6.out.size); (case aL => have := HSL.out; omega); intro v60 w7 ho hb hg hat; have HN7 := Aside0.mk ho; have HB7 := Aside0.mk hb; have HO7 := Aside0.mk (Kd.R_after (ok := fun _ => True) HO6.out hg hat); have VP7 := Aside0.mk (Kd.V_after VP6.out hg hat); have VA7 := Aside0.mk (Kd.V_after VA6.out hg hat); have V17 := Aside0.mk (Kd.V_after V16.out hg hat); have VN7 := Aside0.mk (Kd.V_after VN6.out hg hat); have BP7 := Aside0.mk (blk_grown BP6.out hg (Kd.R_ne HN6.out BP6.out (by decide))); have zP7 := blk_cell BP7.out 0; clear ho hb hg hat) | (go_at_call 47; refine (spec_liPromote.calls k Ap cp p _ An cn now 1 y _ (Kd.V_reads' VP7.out).2.2 (Kd.V_reads' VP7.out).2.1 VN7.out HPR.out).mono ?_; rintro e w8 ⟨v50, rfl, hr, hb⟩; have HB8 := Aside0.mk (below_to HB7.out hb); have HN8 := Aside0.mk (Kd.R_below HN7.out hb); have HO8 := Aside0.mk (Kd.R_below HO7.out hb); have VP8 := Aside0.mk (Kd.V_below VP7.out hb); have VA8 := Aside0.mk (Kd.V_below VA7.out hb); have V18 := Aside0.mk (Kd.V_below V17.out hb); have BP8 := Aside0.mk (blk_below BP7.out hb); have VY8 := Aside0.mk (show Kd.V (Kd.int .i64) 3 w8 w.heap.size (fun k_ => True ∧ some k_ ≠ (v60 : Value).ownBlock) v50 y from Kd.V_mono (Kd.R_V (ok := fun k_ => w7.heap.size ≤ k_) hr) (fun k_ hk => ⟨trivial, fun e => by have := Kd.R_lt HN7.out k_ e.symm; omega⟩)); clear hr hb))
                          go_roundg q
                          case measure => have := HK1.out; omega
                          case rel => exact ⟨y, seen2 ++ [t1], n + 1, by first | rfl | go_num, HI2, ⟨by have := HK1.out; omega⟩, ⟨by have := HNB.out; omega⟩, VY8, HO8, HN8, VP8, V18, VA8, BP8, HB8⟩
                      · cases hI
              · cases hG
          · have e1 : o = out := by
              have := HG.out
              rw [List.drop_of_length_le (by omega), spec_PromotionStabilizers.go] at this
              exact (Option.some.inj this).symm
            subst e1
            go_wp2
            go_ret2
            exact ⟨_, rfl, Kd.R_mono HO.out (fun _ _ => trivial), HB.out⟩
      · cases h
    · cases h
  · rw [if_neg hb] at h
    have hb : s = false := by simpa using hb
    subst hb
    simp only [Option.some.injEq, Prod.mk.injEq] at h
    obtain ⟨rfl, rfl⟩ := h
    go_enter Try.func23, Try.ntmps23
    go_wp2_with (first | (go_at_call 34; refine (spec_shSides.calls a0 a1 false _ HS.out).mono ?_; rintro e w1 ⟨rfl, ⟨nd, rfl⟩⟩))
    go_ret2
    exact ⟨_, rfl, Kd.R_nil _ _ _ _ _, pw_below_drewN (Below.refl _ _) _⟩
def impl_within.f (a0 : Int) (a1 : Int) (a2 : Int) : Option (Bool) := if a1 ≤ a0 then (some (decide (a0 ≤ a2))) else (some false)
set_option maxHeartbeats 8000000 in
set_option maxRecDepth 100000 in
theorem impl_within.calls (a0 : Int) (a1 : Int) (a2 : Int) (r : Bool) (w : World) (h : impl_within.f a0 a1 a2 = some r) :
    Calls Try.prog 31 #[.int .i64 a0, .int .i64 a1, .int .i64 a2] w fun e w' => e = .returned (.bool r) ∧ Drawn0 w w' := by
  have H : (if a1 ≤ a0 then (some (decide (a0 ≤ a2))) else (some false)) = some r := h
  clear h
  by_cases c4 : a1 ≤ a0
  · rw [if_pos c4] at H
    have c4b0 : decide (a1 ≤ a0) = true := decide_eq_true c4
    clear c4
    obtain rfl := Option.some.inj H
    go_enter Try.func31, Try.ntmps31
    go_wp2
    go_ret
    exact ⟨by first | rfl | (simp; done) | (simp [*]; done), by repeat (first | exact Drawn0.refl _ | apply Drawn0.step)⟩
  · rw [if_neg c4] at H
    have c4b0 : decide (a1 ≤ a0) = false := decide_eq_false c4
    clear c4
    obtain rfl := Option.some.inj H
    go_enter Try.func31, Try.ntmps31
    go_wp2
    go_ret
    exact ⟨by first | rfl | (simp; done) | (simp [*]; done), by repeat (first | exact Drawn0.refl _ | apply Drawn0.step)⟩
def impl_areSides.f (a0 : Int) (a1 : Int) (a2 : Int) : Option (Bool) := (impl_within.f a0 1 a2).bind fun t252 => (if t252 = true then ((impl_within.f a1 1 a2).bind fun t253 => (if t253 = true then (some (decide ((wrap64 (a0 * a1)) ≤ a2))) else (some false))) else (some false))
set_option maxHeartbeats 8000000 in
set_option maxRecDepth 100000 in
theorem impl_areSides.calls (a0 : Int) (a1 : Int) (a2 : Int) (r : Bool) (w : World) (h : impl_areSides.f a0 a1 a2 = some r) :
    Calls Try.prog 37 #[.int .i64 a0, .int .i64 a1, .int .i64 a2] w fun e w' => e = .returned (.bool r) ∧ Drawn0 w w' := by
  have H : ((impl_within.f a0 1 a2).bind fun t252 => (if t252 = true then ((impl_within.f a1 1 a2).bind fun t253 => (if t253 = true then (some (decide ((wrap64 (a0 * a1)) ≤ a2))) else (some false))) else (some false))) = some r := h
  clear h
  replace H := Option.bind_eq_some_iff.mp H
  obtain ⟨t252, A40, H⟩ := H
  replace H : (if t252 = true then ((impl_within.f a1 1 a2).bind fun t253 => (if t253 = true then (some (decide ((wrap64 (a0 * a1)) ≤ a2))) else (some false))) else (some false)) = some r := H
  have A4 := Aside0.mk A40
  clear A40
  by_cases c5 : t252 = true
  · subst c5
    have H1 : ((impl_within.f a1 1 a2).bind fun t253 => (if t253 = true then (some (decide ((wrap64 (a0 * a1)) ≤ a2))) else (some false))) = some r := by rw [if_pos rfl] at H; exact H
    clear H
    have H := H1
    clear H1
    replace H := Option.bind_eq_some_iff.mp H
    obtain ⟨t253, A60, H⟩ := H
    replace H : (if t253 = true then (some (decide ((wrap64 (a0 * a1)) ≤ a2))) else (some false)) = some r := H
    have A6 := Aside0.mk A60
    clear A60
    by_cases c7 : t253 = true
    · subst c7
      have H1 : (some (decide ((wrap64 (a0 * a1)) ≤ a2))) = some r := by rw [if_pos rfl] at H; exact H
      clear H
      have H := H1
      clear H1
      obtain rfl := Option.some.inj H
      go_enter Try.func37, Try.ntmps37
      go_wp2_with (first | ((with_reducible refine gate_callee (f := 31) rfl ?_); refine goesL_ (some 9) rfl rfl Try.func31 (by kernel_rfl) rfl #[.int .i64 a0, .int .i64 1, .int .i64 a2] rfl (by (try simp only [List.map_toArray, List.map_cons, List.map_nil]); first | done | rfl | (simp only [List.length_drop, List.length_take]; rfl)) ?_; (with_reducible refine (impl_within.calls a0 1 a2 true _ A4.out).mono ?_); rintro e w' ⟨rfl, ⟨nd, rfl⟩⟩; refine ⟨_, rfl, ?_⟩) | (go_at_call 31; (with_reducible refine (impl_within.calls a1 1 a2 true _ A6.out).mono ?_); rintro e w' ⟨rfl, ⟨nd, rfl⟩⟩))
      go_ret
      exact ⟨by first | rfl | (simp; done) | (simp [*]; done), by repeat (first | exact Drawn0.refl _ | apply Drawn0.step)⟩
    · replace c7 := Bool.eq_false_iff.mpr c7
      subst c7
      have H1 : (some false) = some r := by rw [if_neg (show ¬ (false = true) by decide)] at H; exact H
      clear H
      have H := H1
      clear H1
      obtain rfl := Option.some.inj H
      go_enter Try.func37, Try.ntmps37
      go_wp2_with (first | ((with_reducible refine gate_callee (f := 31) rfl ?_); refine goesL_ (some 9) rfl rfl Try.func31 (by kernel_rfl) rfl #[.int .i64 a0, .int .i64 1, .int .i64 a2] rfl (by (try simp only [List.map_toArray, List.map_cons, List.map_nil]); first | done | rfl | (simp only [List.length_drop, List.length_take]; rfl)) ?_; (with_reducible refine (impl_within.calls a0 1 a2 true _ A4.out).mono ?_); rintro e w' ⟨rfl, ⟨nd, rfl⟩⟩; refine ⟨_, rfl, ?_⟩) | (go_at_call 31; (with_reducible refine (impl_within.calls a1 1 a2 false _ A6.out).mono ?_); rintro e w' ⟨rfl, ⟨nd, rfl⟩⟩))
      go_ret
      exact ⟨by first | rfl | (simp; done) | (simp [*]; done), by repeat (first | exact Drawn0.refl _ | apply Drawn0.step)⟩
  · replace c5 := Bool.eq_false_iff.mpr c5
    subst c5
    have H1 : (some false) = some r := by rw [if_neg (show ¬ (false = true) by decide)] at H; exact H
    clear H
    have H := H1
    clear H1
    obtain rfl := Option.some.inj H
    go_enter Try.func37, Try.ntmps37
    go_wp2_with (first | ((with_reducible refine gate_callee (f := 31) rfl ?_); refine goesL_ (some 9) rfl rfl Try.func31 (by kernel_rfl) rfl #[.int .i64 a0, .int .i64 1, .int .i64 a2] rfl (by (try simp only [List.map_toArray, List.map_cons, List.map_nil]); first | done | rfl | (simp only [List.length_drop, List.length_take]; rfl)) ?_; (with_reducible refine (impl_within.calls a0 1 a2 false _ A4.out).mono ?_); rintro e w' ⟨rfl, ⟨nd, rfl⟩⟩; refine ⟨_, rfl, ?_⟩))
    go_ret
    exact ⟨by first | rfl | (simp; done) | (simp [*]; done), by repeat (first | exact Drawn0.refl _ | apply Drawn0.step)⟩
class Fn2 where
  p : Int → Int → Option Bool
def impl_rectangle_1.f [Fn2] (a0 : Int) (a1 : Int) : Option Bool := Fn2.p a0 a1
end Go.Proofs.Ytldbabadbggleaa.L
end
section
namespace Go.Proofs.Ytldbabadbggleaa.L
open Go.RowKit Go.Proofs.YtldbabadbggleaaW.PrintWords Go.Proofs.YtldbabadbggleaaW.PrintLast Go.Proofs.YtldbabadbggleaaW.PrintMore
attribute [local go_sem] max2_int min2_int max_two min_two max_three min_three max_four min_four
set_option linter.unusedVariables false
variable [Fn2]
set_option linter.unusedSimpArgs false
mutual
def impl_made.l0 : Nat → Int → Int → List Int → Option (List Int)
  | 0, _, _, _ => none
  | k + 1, x11, x12, x259000 => if x12 < x11 then (impl_made.l1 k x12 x11 x12 x12 0 x259000) else (some x259000)
def impl_made.l1 : Nat → Int → Int → Int → Int → Int → List Int → Option (List Int)
  | 0, _, _, _, _, _, _ => none
  | k + 1, x6, x11, x12, x15, x16, x259000 => if x16 < x15 then ((impl_rectangle_1.f x16 x6).bind fun t259 => (if t259 = true then (if 0 ≤ x6 then (if x6 < (x259000.length : Int) then (if 0 ≤ x16 then (impl_made.l1 k x6 x11 x12 x15 (wrap64 (x16 + 1)) (x259000.set (x6 : Int).toNat (Go.bits .or .i64 (rd x259000 x6) (shl .i64 1 x16)))) else (none)) else (none)) else (none)) else (impl_made.l1 k x6 x11 x12 x15 (wrap64 (x16 + 1)) x259000))) else (impl_made.l0 k x11 (wrap64 (x12 + 1)) x259000)
end
def impl_made.f (k : Nat) (a0 : Int) (a1 : Int) : Option (List Int) := if 0 ≤ a0 then (if (a0 : Int).toNat ≤ 35184372088832 then (impl_made.l0 k a0 0 (List.replicate (a0 : Int).toNat 0)) else (none)) else (none)
theorem impl_made.mono_l : ∀ k, (∀ y0 y1 y2, LeO (impl_made.l0 k y0 y1 y2) (impl_made.l0 (k + 1) y0 y1 y2)) ∧ (∀ y0 y1 y2 y3 y4 y5, LeO (impl_made.l1 k y0 y1 y2 y3 y4 y5) (impl_made.l1 (k + 1) y0 y1 y2 y3 y4 y5))
  | 0 => ⟨fun _ _ _ r h => by simp [impl_made.l0] at h, fun _ _ _ _ _ _ r h => by simp [impl_made.l1] at h⟩
  | k + 1 => by
    obtain ⟨ih0, ih1⟩ := impl_made.mono_l k
    refine ⟨?_, ?_⟩
    · intro y0 y1 y2
      unfold impl_made.l0
      repeat' first
      | (with_reducible exact ih0 _ _ _)
      | (with_reducible exact ih1 _ _ _ _ _ _)
      | (with_reducible exact LeO.refl _)
      | (with_reducible exact LeO.none _)
      | (with_reducible refine LeO.ite ?_ ?_)
      | (with_reducible refine LeO.bind ?_ (fun _ => ?_))
      | exact ih0 _ _ _
      | exact ih1 _ _ _ _ _ _
      | exact LeO.none _
      | refine LeO.ite ?_ ?_
      | refine LeO.bind ?_ (fun _ => ?_)
    · intro y0 y1 y2 y3 y4 y5
      unfold impl_made.l1
      repeat' first
      | (with_reducible exact ih0 _ _ _)
      | (with_reducible exact ih1 _ _ _ _ _ _)
      | (with_reducible exact LeO.refl _)
      | (with_reducible exact LeO.none _)
      | (with_reducible refine LeO.ite ?_ ?_)
      | (with_reducible refine LeO.bind ?_ (fun _ => ?_))
      | exact ih0 _ _ _
      | exact ih1 _ _ _ _ _ _
      | exact LeO.none _
      | refine LeO.ite ?_ ?_
      | refine LeO.bind ?_ (fun _ => ?_)
theorem impl_made.mono : ∀ a0 a1 k, LeO (impl_made.f k a0 a1) (impl_made.f (k + 1) a0 a1) := by
  intro a0 a1 k
  obtain ⟨ih0, ih1⟩ := impl_made.mono_l k
  unfold impl_made.f
  repeat' first
      | (with_reducible exact ih0 _ _ _)
      | (with_reducible exact ih1 _ _ _ _ _ _)
      | (with_reducible exact LeO.refl _)
      | (with_reducible exact LeO.none _)
      | (with_reducible refine LeO.ite ?_ ?_)
      | (with_reducible refine LeO.bind ?_ (fun _ => ?_))
      | exact ih0 _ _ _
      | exact ih1 _ _ _ _ _ _
      | exact LeO.none _
      | refine LeO.ite ?_ ?_
      | refine LeO.bind ?_ (fun _ => ?_)
def impl_made.T9 : Bool × List (List Nat × List Nat) := (true, [([], []), ([0], [0]), ([], []), ([1, 2], [1, 2]), ([3], [3]), ([], []), ([5], [5]), ([4, 6], [4, 6]), ([1, 2, 0, 1, 2, 3, 4, 5, 6, 7], [1, 2]), ([8, 7, 0, 1, 2, 3, 4, 5, 6, 7], [7, 8])])
def impl_made.B9 : List Nat := [0, 1, 0, 7, 15, 0, 32, 127, 255, 511]
omit [Fn2] in
theorem impl_made.tab9 : rtab .any (opsOf Try.f75 9) = impl_made.T9 := by kernel_rfl
omit [Fn2] in
theorem impl_made.bits9 : waitsOk impl_made.T9.2 impl_made.B9 = true := by kernel_rfl
set_option maxHeartbeats 8000000 in
set_option maxRecDepth 100000 in
open Go.Proofs.Ytldbabadbggleaa.X in
theorem impl_made.calls (gF : Nat) (lbF : Array Value) (eg : ∀ args w, (callFunc gF args).run Try.prog w = .ok (.enter gF args) w) (k : Nat) (a0 : Int) (a1 : Int) (r : List Int) (w : World) (hpF : ∀ x0_ x1_ b, impl_rectangle_1.f x0_ x1_ = some b → Fv Try.prog gF lbF #[.int .i64 x0_, .int .i64 x1_] (.bool b) w) (h : impl_made.f k a0 a1 = some r) :
    Calls Try.prog 75 #[.int .i64 a0, .func (.func gF) #[] lbF] w fun e w' => ∃ v0_ : Value, e = .returned (.agg #[v0_]) ∧ Kd.R (Kd.int .i64) 3 w' w.heap.size (fun _ => True) v0_ r ∧ Below w.heap.size w w' := by
  have HP := Aside0.mk hpF
  clear hpF
  have hu29 := Try.underlying29
  have HB := Aside0.mk (Below.refl w.heap.size w)
  have H : (if 0 ≤ a0 then (if (a0 : Int).toNat ≤ 35184372088832 then (impl_made.l0 k a0 0 (List.replicate (a0 : Int).toNat 0)) else (none)) else (none)) = some r := h
  clear h
  by_cases c3 : 0 ≤ a0
  · rw [if_pos c3] at H
    have c3b0 := eq_true c3
    have c3b1 : decide (0 ≤ a0) = true := decide_eq_true c3
    clear c3
    by_cases c4 : (a0 : Int).toNat ≤ 35184372088832
    · rw [if_pos c4] at H
      have c4b0 := eq_true c4
      have c4b1 : decide ((a0 : Int).toNat ≤ 35184372088832) = true := decide_eq_true c4
      clear c4
      obtain ⟨y255, hy255⟩ : ∃ y_ : List Int, y_ = (List.replicate (a0 : Int).toNat 0) := ⟨_, rfl⟩
      replace H : (impl_made.l0 k a0 0 y255) = some r := by first | (rw [hy255]; with_reducible exact H) | (have H2_ := (Option.bind_some _ _).symm.trans H; rw [hy255]; with_reducible exact H2_) | (have H2_ := (Option.bind_some _ _).symm.trans H; with_reducible exact H2_) | with_reducible exact H | (rw [hy255]; exact H) | exact H
      have Ny255 := Aside0.mk hy255
      clear hy255
      have H' := Aside0.mk H
      clear H
      go_enter Try.func75, Try.ntmps75
      go_wp2_with (first | ((with_reducible refine gate_dst (N := 4) rfl ?_); refine box_event ?hg (N := 4) ?hd (cs := #[.slice none 0 0]) (t := 29) ?hr ?_; (case hd => rfl); (case hg => rfl); (case hr => first | (go_simp; done) | (go_simp; rfl)); intro gb254 hg w5 hbox hb; have n0_ := Aside0.mk (below_step (by repeat (first | (with_reducible first | exact HB.out | apply below_alloc | apply pw_below_drewN | apply below_drew1) | exact HB.out)) hb); have n1_ := Aside0.mk (hbox); have n2_ := Aside0.mk ((by rw [hg]; exact (below_size (by repeat (first | (with_reducible first | exact HB.out | apply below_alloc | apply pw_below_drewN | apply below_drew1) | exact HB.out))) : w.heap.size ≤ gb254)); have n3_ := Aside0.mk ((by rw [hg]; exact (below_size (by repeat (first | (with_reducible first | exact HB.out | apply below_alloc | apply pw_below_drewN | apply below_drew1) | exact HB.out))) : w.heap.size ≤ gb254)); clear HB; have HB := n0_; have BK254 := n1_; have GW254 := n2_; have GE254 := n3_; clear n0_ n1_ n2_ n3_; clear hb hbox hg) | ((with_reducible refine gate_dst (N := 9) rfl ?_); refine Kd.R_make (Kd.int .i64) _ 3 rfl (N := 9) rfl 22 _ _ rfl a0 rfl rfl Try.underlying22 (.int .i64 0) 8 info3 rfl (by decide) (by omega) 0 (ok := fun _ => True) (okp := fun _ => True) rfl (fun _ hk => hk) trivial (of_decide_eq_true (by first | (with_reducible assumption) | assumption)) (Nat.le_trans (Nat.mul_le_mul_right _ (of_decide_eq_true (by first | (with_reducible assumption) | assumption) : a0.toNat ≤ 35184372088832)) (by omega)) (Below.refl _ _) (Nat.le_refl _) ?_; intro v256 w6 ho7 hb hg_ hnew_; clear hg_ hnew_; (first | rw [← Ny255.out] at ho7 | (simp only [Int.reduceToNat] at ho7; rw [← Ny255.out] at ho7)); have n0_ := Aside0.mk (Kd.R_lower ho7 (below_size (by repeat (first | (with_reducible first | exact HB.out | apply below_alloc | apply pw_below_drewN | apply below_drew1 | refine below_set ?_ GE254.out) | exact HB.out)))); have n1_ := Aside0.mk (blk_below (g := gb254) (o := .cells #[.slice none 0 0] 29 (0, 0)) (by (with_reducible repeat (first | refine blk_drewN ?_ _ | refine blk_drew ?_ | refine blk_alloc ?_ _)); exact BK254.out) hb); have n2_ := Aside0.mk (below_step (by repeat (first | (with_reducible first | exact HB.out | apply below_alloc | apply pw_below_drewN | apply below_drew1 | refine below_set ?_ GE254.out) | exact HB.out)) hb); clear BK254; clear HB; have HO257 := n0_; have BK254 := n1_; have HB := n2_; clear n0_ n1_ n2_; clear hb ho7; obtain ⟨Ao8, co8, eo8⟩ := Kd.R_slice HO257.out; subst eo8) | ((with_reducible refine gate_dst (N := 5) rfl ?_); refine box_event ?hg (N := 5) ?hd (cs := #[.slice none 0 0]) (t := 29) ?hr ?_; (case hd => rfl); (case hg => rfl); (case hr => first | (go_simp; done) | (go_simp; rfl)); intro gb258 hg w9 hbox hb; have n0_ := Aside0.mk (Kd.R_below (by (with_reducible repeat (first | apply Kd.R_alloc | apply Kd.R_drewN | apply Kd.R_drew)); exact HO257.out) hb); have n1_ := Aside0.mk (blk_below (g := gb254) (o := .cells #[.slice none 0 0] 29 (0, 0)) (by (with_reducible repeat (first | refine blk_drewN ?_ _ | refine blk_drew ?_ | refine blk_alloc ?_ _)); exact BK254.out) hb); have n2_ := Aside0.mk (below_step (by repeat (first | (with_reducible first | exact HB.out | apply below_alloc | apply pw_below_drewN | apply below_drew1 | refine below_set ?_ GE254.out) | exact HB.out)) hb); have n3_ := Aside0.mk (hbox); have n4_ := Aside0.mk ((by rw [hg]; exact (below_size (by repeat (first | (with_reducible first | exact HB.out | apply below_alloc | apply pw_below_drewN | apply below_drew1 | refine below_set ?_ GE254.out) | exact HB.out))) : w.heap.size ≤ gb258)); have n5_ := Aside0.mk ((by rw [hg]; exact (below_size (by repeat (first | (with_reducible first | exact HB.out | apply below_alloc | apply pw_below_drewN | apply below_drew1 | refine below_set ?_ GE254.out) | exact HB.out))) : w.heap.size ≤ gb258)); have n6_ := Aside0.mk ((by rw [hg]; exact Nat.ne_of_lt (blk_lt (g := gb254) (o := .cells #[.slice none 0 0] 29 (0, 0)) (by (with_reducible repeat (first | refine blk_drewN ?_ _ | refine blk_drew ?_ | refine blk_alloc ?_ _)); exact BK254.out)) : gb254 ≠ gb258)); have n7_ := Aside0.mk ((by rw [hg]; exact Nat.ne_of_gt (blk_lt (g := gb254) (o := .cells #[.slice none 0 0] 29 (0, 0)) (by (with_reducible repeat (first | refine blk_drewN ?_ _ | refine blk_drew ?_ | refine blk_alloc ?_ _)); exact BK254.out)) : gb258 ≠ gb254)); clear HO257; clear BK254; clear HB; have HO257 := n0_; have BK254 := n1_; have HB := n2_; have BK258 := n3_; have GW258 := n4_; have GE258 := n5_; have NB254_258 := n6_; have NB258_254 := n7_; clear n0_ n1_ n2_ n3_ n4_ n5_ n6_ n7_; clear hb hbox hg; have hnb10 := NB258_254.out; have hnc10 := NB254_258.out; have hcz11_0 : w9.cell? ⟨gb258, 0, none⟩ = some (.slice none 0 0) := (blk_cell BK258.out 0).trans rfl; have hfz11_0 := blk_frozen BK258.out 0))
      go_loopg [12] k (fun kq v12 w' => ∃ (x12_1 : Int) (x259000_1 : List Int) (u259000 : Value), v12 = .int .i64 x12_1 ∧ Aside0 (impl_made.l0 kq a0 x12_1 x259000_1 = some r) ∧ Aside0 (kq ≤ k) ∧ Aside0 (Kd.R (Kd.int .i64) 3 w' w.heap.size (fun _ => True) u259000 x259000_1) ∧ Aside0 (w'.heap[gb254]? = some (.cells #[(.slice none 0 0)] 29 (0, 0))) ∧ Aside0 (w'.heap[gb258]? = some (.cells #[u259000] 29 (0, 0))) ∧ Aside0 (Below w.heap.size w w'))
      case atStart => exact ⟨(0), (y255), (.slice Ao8 y255.length co8), (by first | rfl | (simp; done) | (simp [*]; done)), H', ⟨Nat.le_refl _⟩, ⟨by (with_reducible repeat (first | apply Kd.R_alloc | apply Kd.R_drewN | apply Kd.R_drew)); exact Kd.R_mono (Kd.R_far (p := ⟨gb258, 0, none⟩) (Kd.R_types HO257.out BK258.out (by decide)) (fun _ hk => hk.2) (.slice Ao8 y255.length co8)) (fun _ hk => trivial)⟩, ⟨by (with_reducible repeat (first | refine blk_drewN ?_ _ | refine blk_drew ?_ | refine blk_alloc ?_ _)); refine blk_far ?_ NB254_258.out _; (with_reducible repeat (first | refine blk_drewN ?_ _ | refine blk_drew ?_ | refine blk_alloc ?_ _)); exact BK254.out⟩, ⟨by (with_reducible repeat (first | refine blk_drewN ?_ _ | refine blk_drew ?_ | refine blk_alloc ?_ _)); refine blk_put (cs := #[.slice none 0 0]) ?_ 0 _ rfl; (with_reducible repeat (first | refine blk_drewN ?_ _ | refine blk_drew ?_ | refine blk_alloc ?_ _)); exact BK258.out⟩, ⟨by repeat (first | (with_reducible first | exact HB.out | apply below_alloc | apply pw_below_drewN | apply below_drew1 | refine below_set ?_ GE254.out | refine below_set ?_ GE258.out) | exact HB.out)⟩⟩
      case round =>
        clear H'
        try clear c1
        try clear p2
        try clear c3
        try clear c3b0
        try clear c3b1
        try clear c4
        try clear c4b0
        try clear c4b1
        try clear c7
        try clear c10
        try clear hcz11_0
        try clear hfz11_0
        obtain ⟨x12_1, x259000_1, u259000, rfl, HA, HK1, HO_259000, BK254, BK258, HB⟩ := hrel
        cases gk with
        | zero => exact absurd HA.out (by simp [impl_made.l0])
        | succ k1 =>
          have H := HA.out
          clear HA
          simp only [impl_made.l0] at H
          by_cases c12 : x12_1 < a0
          · rw [if_pos c12] at H
            have c12b0 : decide (x12_1 < a0) = true := decide_eq_true c12
            clear c12
            have H' := Aside0.mk H
            clear H
            go_wp2
            go_loopg [16] k1 (fun kq v16 w' => ∃ (x16_2 : Int) (x259000_2 : List Int) (u259000 : Value), v16 = .int .i64 x16_2 ∧ Aside0 (impl_made.l1 kq x12_1 a0 x12_1 x12_1 x16_2 x259000_2 = some r) ∧ Aside0 (kq ≤ k1) ∧ Aside0 (Kd.R (Kd.int .i64) 3 w' w.heap.size (fun _ => True) u259000 x259000_2) ∧ Aside0 (w'.heap[gb254]? = some (.cells #[(.slice none 0 0)] 29 (0, 0))) ∧ Aside0 (w'.heap[gb258]? = some (.cells #[u259000] 29 (0, 0))) ∧ Aside0 (Below w.heap.size w w'))
            case atStart => exact ⟨(0), (x259000_1), (u259000), (by first | rfl | (simp; done) | (simp [*]; done)), H', ⟨Nat.le_refl _⟩, ⟨by (with_reducible repeat (first | apply Kd.R_alloc | apply Kd.R_drewN | apply Kd.R_drew)); exact HO_259000.out⟩, ⟨by (with_reducible repeat (first | refine blk_drewN ?_ _ | refine blk_drew ?_ | refine blk_alloc ?_ _)); exact BK254.out⟩, ⟨by (with_reducible repeat (first | refine blk_drewN ?_ _ | refine blk_drew ?_ | refine blk_alloc ?_ _)); exact BK258.out⟩, ⟨by repeat (first | (with_reducible first | exact HB.out | apply below_alloc | apply pw_below_drewN | apply below_drew1 | refine below_set ?_ GE254.out | refine below_set ?_ GE258.out) | exact HB.out)⟩⟩
            case round =>
              clear H'
              try clear c1
              try clear p2
              try clear c3
              try clear c3b0
              try clear c3b1
              try clear c4
              try clear c4b0
              try clear c4b1
              try clear c7
              try clear c10
              try clear c12
              try clear c12b0
              try clear hcz11_0
              try clear hfz11_0
              try clear p2
              obtain ⟨x16_2, x259000_2, u259000, rfl, HA, HK2, HO_259000, BK254, BK258, HB⟩ := hrel
              cases gk with
              | zero => exact absurd HA.out (by simp [impl_made.l1])
              | succ k2 =>
                have H := HA.out
                clear HA
                simp only [impl_made.l1] at H
                by_cases c13 : x16_2 < x12_1
                · rw [if_pos c13] at H
                  have c13b0 : decide (x16_2 < x12_1) = true := decide_eq_true c13
                  clear c13
                  replace H := Option.bind_eq_some_iff.mp H
                  obtain ⟨t259, A140, H⟩ := H
                  replace H : (if t259 = true then (if 0 ≤ x12_1 then (if x12_1 < (x259000_2.length : Int) then (if 0 ≤ x16_2 then (impl_made.l1 k2 x12_1 a0 x12_1 x12_1 (wrap64 (x16_2 + 1)) (x259000_2.set (x12_1 : Int).toNat (Go.bits .or .i64 (rd x259000_2 x12_1) (shl .i64 1 x16_2)))) else (none)) else (none)) else (none)) else (impl_made.l1 k2 x12_1 a0 x12_1 x12_1 (wrap64 (x16_2 + 1)) x259000_2)) = some r := H
                  have A14 := Aside0.mk A140
                  clear A140
                  by_cases c15 : t259 = true
                  · subst c15
                    have H1 : (if 0 ≤ x12_1 then (if x12_1 < (x259000_2.length : Int) then (if 0 ≤ x16_2 then (impl_made.l1 k2 x12_1 a0 x12_1 x12_1 (wrap64 (x16_2 + 1)) (x259000_2.set (x12_1 : Int).toNat (Go.bits .or .i64 (rd x259000_2 x12_1) (shl .i64 1 x16_2)))) else (none)) else (none)) else (none)) = some r := by rw [if_pos rfl] at H; exact H
                    clear H
                    have H := H1
                    clear H1
                    by_cases c16 : 0 ≤ x12_1
                    · rw [if_pos c16] at H
                      have c16b0 : decide (0 ≤ x12_1) = true := decide_eq_true c16
                      clear c16
                      by_cases c17 : x12_1 < (x259000_2.length : Int)
                      · rw [if_pos c17] at H
                        have c17b0 : decide (x12_1 < (x259000_2.length : Int)) = true := decide_eq_true c17
                        clear c17
                        by_cases c18 : 0 ≤ x16_2
                        · rw [if_pos c18] at H
                          have c18b0 := eq_true c18
                          have c18b1 : decide (0 ≤ x16_2) = true := decide_eq_true c18
                          clear c18
                          obtain ⟨ji19, hji19⟩ : ∃ j_ : Int, (shl .i64 1 x16_2) = j_ := ⟨_, rfl⟩
                          replace H : (impl_made.l1 k2 x12_1 a0 x12_1 x12_1 (wrap64 (x16_2 + 1)) (x259000_2.set (x12_1 : Int).toNat (Go.bits .or .i64 (rd x259000_2 x12_1) (ji19)))) = some r := by first | (rw [hji19] at H; exact H) | (simp only [hji19] at H ⊢; exact H)
                          (try rw [hji19] at A14)
                          have hji19_ : (IntKind.i64.wrap (1 * 2 ^ min x16_2.toNat 64)) = ji19 := hji19
                          have hji19z : x16_2 ≤ 64 → (IntKind.i64.wrap (1 * 2 ^ x16_2.toNat)) = ji19 := shl_small hji19
                          have hji19u : (IntKind.i64.wrap (2 ^ min x16_2.toNat 64)) = ji19 := by have h_ := hji19_; rw [Int.one_mul] at h_; exact h_
                          have hji19v : x16_2 ≤ 64 → (IntKind.i64.wrap (2 ^ x16_2.toNat)) = ji19 := fun hle_ => by have h_ := hji19z hle_; rw [Int.one_mul] at h_; exact h_
                          have hji19y : (wrap64 (1 * 2 ^ min x16_2.toNat 64)) = ji19 := (i64_w _).symm.trans hji19_
                          have hji19x : x16_2 ≤ 64 → (wrap64 (1 * 2 ^ x16_2.toNat)) = ji19 := fun h_ => (i64_w _).symm.trans (hji19z h_)
                          obtain ⟨y261, hy261⟩ : ∃ y_ : List Int, y_ = (x259000_2.set (x12_1 : Int).toNat (Go.bits .or .i64 (rd x259000_2 x12_1) (ji19))) := ⟨_, rfl⟩
                          replace H : (impl_made.l1 k2 x12_1 a0 x12_1 x12_1 (wrap64 (x16_2 + 1)) y261) = some r := by first | (rw [hy261]; with_reducible exact H) | (have H2_ := (Option.bind_some _ _).symm.trans H; rw [hy261]; with_reducible exact H2_) | (have H2_ := (Option.bind_some _ _).symm.trans H; with_reducible exact H2_) | with_reducible exact H | (rw [hy261]; exact H) | exact H
                          have Ny261 := Aside0.mk hy261
                          clear hy261
                          have H' := Aside0.mk H
                          clear H
                          try go_wp2_with (first | (go_at_fn gF; (with_reducible refine (Fv.calls (HP.out _ _ _ A14.out) (by repeat (first | (with_reducible first | exact HB.out | apply below_alloc | apply pw_below_drewN | apply below_drew1 | refine below_set ?_ GE254.out | refine below_set ?_ GE258.out) | exact HB.out))).mono ?_); rintro e w21 ⟨rfl, hb⟩; have n0_ := Aside0.mk (Kd.R_below (by (with_reducible repeat (first | apply Kd.R_alloc | apply Kd.R_drewN | apply Kd.R_drew)); exact HO_259000.out) hb); have n1_ := Aside0.mk (blk_below (g := gb254) (o := .cells #[.slice none 0 0] 29 (0, 0)) (by (with_reducible repeat (first | refine blk_drewN ?_ _ | refine blk_drew ?_ | refine blk_alloc ?_ _)); exact BK254.out) hb); have n2_ := Aside0.mk (blk_below (g := gb258) (o := .cells #[u259000] 29 (0, 0)) (by (with_reducible repeat (first | refine blk_drewN ?_ _ | refine blk_drew ?_ | refine blk_alloc ?_ _)); exact BK258.out) hb); have n3_ := Aside0.mk (below_step (by repeat (first | (with_reducible first | exact HB.out | apply below_alloc | apply pw_below_drewN | apply below_drew1 | refine below_set ?_ GE254.out | refine below_set ?_ GE258.out) | exact HB.out)) hb); clear HO_259000; clear BK254; clear BK258; clear HB; have HO_259000 := n0_; have BK254 := n1_; have BK258 := n2_; have HB := n3_; clear n0_ n1_ n2_ n3_; (try clear hb); (try clear hb2); (try clear hk); (try clear hi)))
                          have n0_ := Aside0.mk (Kd.R_drew HO_259000.out)
                          have n1_ := Aside0.mk (blk_drew BK254.out)
                          have n2_ := Aside0.mk (blk_drew BK258.out)
                          have n3_ := Aside0.mk (below_drew1 HB.out)
                          clear HO_259000
                          clear BK254
                          clear BK258
                          clear HB
                          have HO_259000 := n0_
                          have BK254 := n1_
                          have BK258 := n2_
                          have HB := n3_
                          clear n0_ n1_ n2_ n3_
                          obtain ⟨Ao23, co23, eo23⟩ := Kd.R_slice HO_259000.out
                          (first | subst eo23 | (injection eo23 with f1_ f2_ f3_; have f4_ := f1_.symm; have f5_ := f3_.symm; clear f1_ f2_ f3_; subst f4_; subst f5_))
                          have p260 : 0 ≤ (x12_1 : Int) := of_decide_eq_true (by first | (with_reducible assumption) | assumption)
                          have q260 : x12_1 < (x259000_2.length : Int) := of_decide_eq_true (by first | (with_reducible assumption) | assumption)
                          obtain ⟨ad260, e260, hx260_0⟩ := Kd.at_int (Kd.R_reads' HO_259000.out).2.2 x12_1 p260 q260
                          cases e260
                          replace p260 := eq_true p260
                          replace q260 := eq_true q260
                          have p20 : 0 ≤ (x12_1 : Int) := of_decide_eq_true (by first | (with_reducible assumption) | assumption)
                          have q20 : (x12_1 : Int) < ((x259000_2.length : Int) : Int) := of_decide_eq_true (by first | (with_reducible assumption) | assumption)
                          obtain ⟨go20, co20, eo20, gb20, gl20, cl20, HG20⟩ := Kd.R_form HO_259000.out (by omega)
                          (first | cases eo20 | (injection eo20 with ea_ en_ ec_; (first | subst ea_ | (injection ea_ with ea_; subst ea_)); subst ec_; clear en_))
                          have GB20 := Aside0.mk gb20
                          have GG20 := Aside0.mk HG20
                          clear gb20 gl20 HG20
                          (first | simp only [add_plain] at hx260_0 | skip)
                          obtain ⟨hx20_0, hf20_0⟩ := Kd.R_celln 0 HO_259000.out (x12_1 : Int) p20 q20
                          replace p20 := eq_true p20
                          replace q20 := eq_true q20
                          have HP24 := Kd.R_putn HO_259000.out (x12_1 : Int) (Go.bits .or .i64 (rd x259000_2 x12_1) (ji19))
                          rw [← Ny261.out] at HP24
                          have HQ24 := Aside0.mk HP24
                          clear HP24
                          refine start_ (n := 10) (S := fun w' => w'.cell? ⟨gb258, 0, none⟩ = some (.slice (some ⟨go20, 0, none⟩) x259000_2.length co23) ∧ w'.cell? ⟨go20, (x12_1).toNat, none⟩ = some (.int .i64 (rd x259000_2 x12_1))) (ds := [9]) #[false, false, false, false, false, false, false, false, false, false] (by kernel_rfl) rfl rfl ⟨(blk_cell BK258.out 0).trans rfl, hx260_0⟩ (fun hHeld => ?_); refine with_tabW impl_made.tab9 impl_made.bits9 (fun HT_ HW_ => ?_)
                          generalize w21.drew = w22 at HO_259000 BK254 BK258 HB GG20 HQ24 hf20_0 hx20_0 hx260_0 hHeld ⊢
                          refine pure_ (i := 0) (N := some 23) (v := ?_) (a' := ?_) #[true, false, false, false, false, false, false, false, false, false] rfl rfl (any_of HT_.out (by kernel_rfl)) (fun _ _ _ h => h) (Or.inl ⟨by rfl, ?_⟩) ?_ ?_
                          rotate_left
                          · intro w'
                            go_simp
                            with_reducible rfl
                          rotate_left
                          · simp only [Act.put, List.setIfInBounds_toArray, List.set_cons_zero, List.set_cons_succ, i64_w, i32_w]
                            rfl
                          refine pure_ (i := 2) (N := some 25) (v := ?_) (a' := ?_) #[true, false, true, false, false, false, false, false, false, false] rfl rfl (any_of HT_.out (by kernel_rfl)) (fun _ _ _ h => h) (Or.inl ⟨by rfl, ?_⟩) ?_ ?_
                          rotate_left
                          · intro w'
                            go_simp
                            with_reducible rfl
                          rotate_left
                          · simp only [Act.put, List.setIfInBounds_toArray, List.set_cons_zero, List.set_cons_succ, i64_w, i32_w]
                            rfl
                          refine pure_ (i := 5) (N := some 28) (v := ?_) (a' := ?_) #[true, false, true, false, false, true, false, false, false, false] rfl rfl (any_of HT_.out (by kernel_rfl)) (fun _ _ _ h => h) (Or.inl ⟨by rfl, ?_⟩) ?_ ?_
                          rotate_left
                          · intro w'
                            go_simp
                            with_reducible rfl
                          rotate_left
                          · simp only [Act.put, List.setIfInBounds_toArray, List.set_cons_zero, List.set_cons_succ, i64_w, i32_w]
                            rfl
                          refine pure_ (i := 6) (N := some 29) (v := ?_) (a' := ?_) #[true, false, true, false, false, true, true, false, false, false] rfl rfl (any_of HT_.out (by kernel_rfl)) (fun _ _ _ h => h) (Or.inl ⟨by rfl, ?_⟩) ?_ ?_
                          rotate_left
                          · intro w'
                            go_simp
                            with_reducible rfl
                          rotate_left
                          · simp only [Act.put, List.setIfInBounds_toArray, List.set_cons_zero, List.set_cons_succ, i64_w, i32_w]
                            rfl
                          refine take_ (i := 1) (N := some 24) (v := ?_) (a' := ?_) #[true, true, true, false, false, true, true, false, false, false] rfl rfl (take_ofW HT_.out HW_.out (by kernel_rfl)) (fun _ _ _ h => h) (Or.inl ⟨by rfl, ?_⟩) hHeld ?_ ?_
                          rotate_left
                          · rintro w' ⟨s0, s1⟩
                            go_simp
                            with_reducible rfl
                          rotate_left
                          · simp only [Act.put, List.setIfInBounds_toArray, List.set_cons_zero, List.set_cons_succ, i64_w, i32_w]
                            rfl
                          refine pure_ (i := 3) (N := some 26) (v := ?_) (a' := ?_) #[true, true, true, true, false, true, true, false, false, false] rfl rfl (any_of HT_.out (by kernel_rfl)) (fun _ _ _ h => h) (Or.inl ⟨by rfl, ?_⟩) ?_ ?_
                          rotate_left
                          · intro w'
                            go_simp
                            with_reducible rfl
                          rotate_left
                          · simp only [Act.put, List.setIfInBounds_toArray, List.set_cons_zero, List.set_cons_succ, i64_w, i32_w]
                            rfl
                          refine take_ (i := 4) (N := some 27) (v := ?_) (a' := ?_) #[true, true, true, true, true, true, true, false, false, false] rfl rfl (take_ofW HT_.out HW_.out (by kernel_rfl)) (fun _ _ _ h => h) (Or.inl ⟨by rfl, ?_⟩) hHeld ?_ ?_
                          rotate_left
                          · rintro w' ⟨s0, s1⟩
                            go_simp
                            with_reducible rfl
                          rotate_left
                          · simp only [Act.put, List.setIfInBounds_toArray, List.set_cons_zero, List.set_cons_succ, i64_w, i32_w]
                            rfl
                          refine pure_ (i := 7) (N := some 30) (v := ?_) (a' := ?_) #[true, true, true, true, true, true, true, true, false, false] rfl rfl (any_of HT_.out (by kernel_rfl)) (fun _ _ _ h => h) (Or.inl ⟨by rfl, ?_⟩) ?_ ?_
                          rotate_left
                          · intro w'
                            go_simp
                            with_reducible rfl
                          rotate_left
                          · simp only [Act.put, List.setIfInBounds_toArray, List.set_cons_zero, List.set_cons_succ, i64_w, i32_w]
                            rfl
                          refine pure_ (i := 8) (N := some 31) (v := ?_) (a' := ?_) #[true, true, true, true, true, true, true, true, true, false] rfl rfl (any_of HT_.out (by kernel_rfl)) (fun _ _ _ h => h) (Or.inl ⟨by rfl, ?_⟩) ?_ ?_
                          rotate_left
                          · intro w'
                            go_simp
                            with_reducible rfl
                          rotate_left
                          · simp only [Act.put, List.setIfInBounds_toArray, List.set_cons_zero, List.set_cons_succ, i64_w, i32_w]
                            rfl
                          refine last_ (i := 9) (N := none) #[true, true, true, true, true, true, true, true, true, true] rfl rfl (one_of HT_.out (by kernel_rfl)) (by decide) (fun K hK => ?_)
                          refine skip_ (w1 := ?_) (by rfl) rfl ?_ ?_
                          rotate_left
                          · go_simp
                            rfl
                          refine hK.out _ _ ?_
                          clear hK K
                          refine done_ (done_of HT_.out (by kernel_rfl)) ?_
                          try go_wp2
                          go_roundg k2
                          case measure => have := HK1.out; have := HK2.out; omega
                          case rel => exact ⟨(wrap64 (x16_2 + 1)), (y261), (.slice (some ⟨go20, 0, none⟩) x259000_2.length co23), (by first | rfl | (simp; done) | (simp [*]; done)), H', ⟨by have := HK1.out; have := HK2.out; omega⟩, ⟨by (with_reducible repeat (first | apply Kd.R_alloc | apply Kd.R_drewN | apply Kd.R_drew)); exact HQ24.out⟩, ⟨by (with_reducible repeat (first | refine blk_drewN ?_ _ | refine blk_drew ?_ | refine blk_alloc ?_ _)); refine blk_far ?_ (by have h_ := Kd.R_ne HO_259000.out BK254.out (by decide); intro e_; exact h_ (by rw [e_]; rfl)) _; (with_reducible repeat (first | refine blk_drewN ?_ _ | refine blk_drew ?_ | refine blk_alloc ?_ _)); exact BK254.out⟩, ⟨by (with_reducible repeat (first | refine blk_drewN ?_ _ | refine blk_drew ?_ | refine blk_alloc ?_ _)); refine blk_far ?_ (by have h_ := Kd.R_ne HO_259000.out BK258.out (by decide); intro e_; exact h_ (by rw [e_]; rfl)) _; (with_reducible repeat (first | refine blk_drewN ?_ _ | refine blk_drew ?_ | refine blk_alloc ?_ _)); exact BK258.out⟩, ⟨by repeat (first | (with_reducible first | exact HB.out | apply below_alloc | apply pw_below_drewN | apply below_drew1 | refine below_set ?_ GB20.out | refine below_set ?_ GE254.out | refine below_set ?_ GE258.out) | exact HB.out)⟩⟩
                        · rw [if_neg c18] at H
                          exact absurd H (by simp)
                      · rw [if_neg c17] at H
                        exact absurd H (by simp)
                    · rw [if_neg c16] at H
                      exact absurd H (by simp)
                  · replace c15 := Bool.eq_false_iff.mpr c15
                    subst c15
                    have H1 : (impl_made.l1 k2 x12_1 a0 x12_1 x12_1 (wrap64 (x16_2 + 1)) x259000_2) = some r := by rw [if_neg (show ¬ (false = true) by decide)] at H; exact H
                    clear H
                    have H := H1
                    clear H1
                    have H' := Aside0.mk H
                    clear H
                    go_wp2_with (first | (go_at_fn gF; (with_reducible refine (Fv.calls (HP.out _ _ _ A14.out) (by repeat (first | (with_reducible first | exact HB.out | apply below_alloc | apply pw_below_drewN | apply below_drew1 | refine below_set ?_ GE254.out | refine below_set ?_ GE258.out) | exact HB.out))).mono ?_); rintro e w25 ⟨rfl, hb⟩; have n0_ := Aside0.mk (Kd.R_below (by (with_reducible repeat (first | apply Kd.R_alloc | apply Kd.R_drewN | apply Kd.R_drew)); exact HO_259000.out) hb); have n1_ := Aside0.mk (blk_below (g := gb254) (o := .cells #[.slice none 0 0] 29 (0, 0)) (by (with_reducible repeat (first | refine blk_drewN ?_ _ | refine blk_drew ?_ | refine blk_alloc ?_ _)); exact BK254.out) hb); have n2_ := Aside0.mk (blk_below (g := gb258) (o := .cells #[u259000] 29 (0, 0)) (by (with_reducible repeat (first | refine blk_drewN ?_ _ | refine blk_drew ?_ | refine blk_alloc ?_ _)); exact BK258.out) hb); have n3_ := Aside0.mk (below_step (by repeat (first | (with_reducible first | exact HB.out | apply below_alloc | apply pw_below_drewN | apply below_drew1 | refine below_set ?_ GE254.out | refine below_set ?_ GE258.out) | exact HB.out)) hb); clear HO_259000; clear BK254; clear BK258; clear HB; have HO_259000 := n0_; have BK254 := n1_; have BK258 := n2_; have HB := n3_; clear n0_ n1_ n2_ n3_; (try clear hb); (try clear hb2); (try clear hk); (try clear hi)))
                    go_roundg k2
                    case measure => have := HK1.out; have := HK2.out; omega
                    case rel => exact ⟨(wrap64 (x16_2 + 1)), (x259000_2), (u259000), (by first | rfl | (simp; done) | (simp [*]; done)), H', ⟨by have := HK1.out; have := HK2.out; omega⟩, ⟨by (with_reducible repeat (first | apply Kd.R_alloc | apply Kd.R_drewN | apply Kd.R_drew)); exact HO_259000.out⟩, ⟨by (with_reducible repeat (first | refine blk_drewN ?_ _ | refine blk_drew ?_ | refine blk_alloc ?_ _)); exact BK254.out⟩, ⟨by (with_reducible repeat (first | refine blk_drewN ?_ _ | refine blk_drew ?_ | refine blk_alloc ?_ _)); exact BK258.out⟩, ⟨by repeat (first | (with_reducible first | exact HB.out | apply below_alloc | apply pw_below_drewN | apply below_drew1 | refine below_set ?_ GE254.out | refine below_set ?_ GE258.out) | exact HB.out)⟩⟩
                · rw [if_neg c13] at H
                  have c13b0 : decide (x16_2 < x12_1) = false := decide_eq_false c13
                  clear c13
                  have H' := Aside0.mk H
                  clear H
                  go_wp2
                  go_roundg k2
                  case measure => have := HK1.out; have := HK2.out; omega
                  case rel => exact ⟨(wrap64 (x12_1 + 1)), (x259000_2), (u259000), (by first | rfl | (simp; done) | (simp [*]; done)), H', ⟨by have := HK1.out; have := HK2.out; omega⟩, ⟨by (with_reducible repeat (first | apply Kd.R_alloc | apply Kd.R_drewN | apply Kd.R_drew)); exact HO_259000.out⟩, ⟨by (with_reducible repeat (first | refine blk_drewN ?_ _ | refine blk_drew ?_ | refine blk_alloc ?_ _)); exact BK254.out⟩, ⟨by (with_reducible repeat (first | refine blk_drewN ?_ _ | refine blk_drew ?_ | refine blk_alloc ?_ _)); exact BK258.out⟩, ⟨by repeat (first | (with_reducible first | exact HB.out | apply below_alloc | apply pw_below_drewN | apply below_drew1 | refine below_set ?_ GE254.out | refine below_set ?_ GE258.out) | exact HB.out)⟩⟩
          · rw [if_neg c12] at H
            have c12b0 : decide (x12_1 < a0) = false := decide_eq_false c12
            clear c12
            obtain rfl := Option.some.inj H
            have hnb26 := NB258_254.out
            have hnc26 := NB254_258.out
            have hcz27_0 : wr.cell? ⟨gb258, 0, none⟩ = some (u259000) := (blk_cell BK258.out 0).trans rfl
            have hfz27_0 := blk_frozen BK258.out 0
            obtain ⟨Ao28, co28, eo28⟩ := Kd.R_slice HO_259000.out
            subst eo28
            have hcz29_0 : wr.cell? ⟨gb254, 0, none⟩ = some (.slice none 0 0) := (blk_cell BK254.out 0).trans rfl
            have hfz29_0 := blk_frozen BK254.out 0
            go_wp2
            refine bodyPost_ret (results_cell_row rfl _ _ gb254 29 #[.slice Ao28 x259000_1.length co28] (0, 0) _ rfl (by (with_reducible repeat (first | refine blk_drewN ?_ _ | refine blk_drew ?_ | refine blk_alloc ?_ _)); refine blk_put (cs := #[.slice none 0 0]) ?_ 0 _ rfl; (with_reducible repeat (first | refine blk_drewN ?_ _ | refine blk_drew ?_ | refine blk_alloc ?_ _)); exact BK254.out) Try.underlying29 rfl (by kernel_rfl)) rfl ?_
            exact ⟨_, by first | rfl | (simp [errW_none, errW_some] <;> rfl) | (simp [*, errW_none, errW_some] <;> rfl), by (with_reducible repeat (first | apply Kd.R_alloc | apply Kd.R_drewN | apply Kd.R_drew)); exact Kd.R_mono (Kd.R_far (p := ⟨gb254, 0, none⟩) (Kd.R_types HO_259000.out BK254.out (by decide)) (fun _ hk => hk.2) (.slice Ao28 x259000_1.length co28)) (fun _ hk => trivial), by repeat (first | (with_reducible first | exact HB.out | apply below_alloc | apply pw_below_drewN | apply below_drew1 | refine below_set ?_ GE254.out | refine below_set ?_ GE258.out) | exact HB.out)⟩
    · rw [if_neg c4] at H
      exact absurd H (by simp)
  · rw [if_neg c3] at H
    exact absurd H (by simp)
end Go.Proofs.Ytldbabadbggleaa.L
end
section
namespace Go.Proofs.Ytldbabadbggleaa.L
open Go.RowKit Go.Proofs.YtldbabadbggleaaW.PrintWords Go.Proofs.YtldbabadbggleaaW.PrintLast Go.Proofs.YtldbabadbggleaaW.PrintMore
attribute [local go_sem] max2_int min2_int max_two min_two max_three min_three max_four min_four
set_option linter.unusedVariables false
set_option linter.unusedSimpArgs false
@[reducible] def impl_rectangle.inst (b : Int) : Fn2 := ⟨fun j i => if b = 0 then none else some (decide (wrap64 (Int.tdiv j b) ≤ wrap64 (Int.tdiv i b)) && decide (Int.tmod j b ≤ Int.tmod i b))⟩
def impl_rectangle.f (k : Nat) (a0 : Int) (a1 : Int) : Option (List Int) := @impl_made.f (impl_rectangle.inst a1) k (wrap64 (a0 * a1)) 0
theorem impl_rectangle.laid (v : World) (o : Obj) : (v.alloc o).heap[v.heap.size]? = some o := by
  unfold World.alloc; simp
theorem impl_rectangle.mono : ∀ a0 a1 k, LeO (impl_rectangle.f k a0 a1) (impl_rectangle.f (k + 1) a0 a1) := fun a0 a1 k => @impl_made.mono (impl_rectangle.inst a1) _ _ k
open Go.Proofs.Ytldbabadbggleaa.X in
set_option maxHeartbeats 800000 in
set_option maxRecDepth 100000 in
theorem impl_rectangle.lit (b j i : Int) (t : Bool) (B : Nat) (w : World) (hB : B < w.heap.size) (hc : w.cell? ⟨B, 0, none⟩ = some (.int .i64 b)) (h : (impl_rectangle.inst b).p j i = some t) :
    Fv Try.prog 76 #[.pointer (some ⟨B, 0, none⟩)] #[.int .i64 j, .int .i64 i] (.bool t) w := by
  intro W hb
  have hc' : W.cell? ⟨B, 0, none⟩ = some (.int .i64 b) := (hb.cell (p := ⟨B, 0, none⟩) hB).trans hc
  clear hc hB hb
  unfold impl_rectangle.inst at h
  by_cases hb0 : b = 0
  · simp only [hb0, if_true] at h; cases h
  · have h' : some (decide (wrap64 (Int.tdiv j b) ≤ wrap64 (Int.tdiv i b)) && decide (Int.tmod j b ≤ Int.tmod i b)) = some t := by simpa only [if_neg hb0] using h
    obtain rfl := Option.some.inj h'
    clear h h'
    by_cases h1 : wrap64 (Int.tdiv j b) ≤ wrap64 (Int.tdiv i b)
    · have e1 : decide (wrap64 (Int.tdiv j b) ≤ wrap64 (Int.tdiv i b)) = true := decide_eq_true h1
      rw [e1, Bool.true_and]
      clear h1
      go_enter Try.func76, Try.ntmps76
      go_wp2
      repeat (go_quiet (fail); try go_wp2)
      go_ret
      exact ⟨rfl, by first | exact Below.refl _ _ | exact pw_below_drewN (Below.refl _ _) _⟩
    · have e1 : decide (wrap64 (Int.tdiv j b) ≤ wrap64 (Int.tdiv i b)) = false := decide_eq_false h1
      rw [e1, Bool.false_and]
      clear h1
      go_enter Try.func76, Try.ntmps76
      go_wp2
      repeat (go_quiet (fail); try go_wp2)
      go_ret
      exact ⟨rfl, by first | exact Below.refl _ _ | exact pw_below_drewN (Below.refl _ _) _⟩
open Go.Proofs.Ytldbabadbggleaa.X in
set_option maxHeartbeats 800000 in
set_option maxRecDepth 100000 in
theorem impl_rectangle.calls (k : Nat) (a0 : Int) (a1 : Int) (r : List Int) (w : World) (h : impl_rectangle.f k a0 a1 = some r) :
    Calls Try.prog 58 #[.int .i64 a0, .int .i64 a1] w fun e w' => ∃ v0_ : Value, e = .returned (.agg #[v0_]) ∧ Kd.R (Kd.int .i64) 3 w' w.heap.size (fun _ => True) v0_ r ∧ Below w.heap.size w w' := by
  unfold impl_rectangle.f at h
  have HF := Aside0.mk h
  clear h
  have hu := Try.underlying29
  go_enter Try.func58, Try.ntmps58
  go_wp2_with fail
  refine (@impl_made.calls (impl_rectangle.inst a1) 76 #[.pointer (some ⟨w.heap.size, 0, none⟩)] (enters_ Try.func76 (by kernel_rfl) rfl) k (wrap64 (a0 * a1)) 0 r _ (fun j i b hb => impl_rectangle.lit a1 j i b w.heap.size _ (by simp; omega) (by simp) hb) HF.out).mono ?_
  rintro e w2 ⟨v0, rfl, hR, hb⟩
  have hR2 := Kd.R_lower hR (show w.heap.size ≤ _ by simp; omega)
  have BK := Aside0.mk (show w2.heap[w.heap.size + 1]? = some (.cells #[.slice none 0 0] 29 (0, 0)) from blk_below (g := w.heap.size + 1) (o := .cells #[.slice none 0 0] 29 (0, 0)) (by rw [show w.heap.size + 1 = (w.alloc (.cells #[.int .i64 a1] 3)).heap.size by simp]; exact impl_rectangle.laid _ _) hb)
  have B2 := Aside0.mk (below_to (below_alloc (below_alloc (Below.refl w.heap.size w) (.cells #[.int .i64 a1] 3)) (.cells #[.slice none 0 0] 29)) hb)
  obtain ⟨Ao, co, eo⟩ := Kd.R_slice hR2
  subst eo
  have HO := Aside0.mk hR2
  have hcz : w2.cell? ⟨w.heap.size + 1, 0, none⟩ = some (.slice none 0 0) := (blk_cell BK.out 0).trans rfl
  have hfz := blk_frozen BK.out 0
  clear hR hR2 hb
  go_wp2
  refine bodyPost_ret (results_cell_row rfl _ _ (w.heap.size + 1) 29 #[.slice Ao r.length co] (0, 0) _ rfl (by (with_reducible repeat (first | refine blk_drewN ?_ _ | refine blk_drew ?_ | refine blk_alloc ?_ _)); refine blk_put (cs := #[.slice none 0 0]) ?_ 0 _ rfl; (with_reducible repeat (first | refine blk_drewN ?_ _ | refine blk_drew ?_ | refine blk_alloc ?_ _)); exact BK.out) Try.underlying29 rfl (by kernel_rfl)) rfl ?_
  exact ⟨_, by first | rfl | (simp; done), by (with_reducible repeat (first | apply Kd.R_alloc | apply Kd.R_drewN | apply Kd.R_drew)); exact Kd.R_mono (Kd.R_far (p := ⟨w.heap.size + 1, 0, none⟩) (Kd.R_types HO.out BK.out (by decide)) (fun _ hk => hk.2) (.slice Ao r.length co)) (fun _ hk => trivial), by repeat (first | (with_reducible first | exact B2.out | apply below_alloc | apply pw_below_drewN | apply below_drew1 | refine below_set ?_ (Nat.le_succ _)) | exact B2.out)⟩
def impl_Poset_n.f (l0_0 : List Int) : Option (Int) := some (l0_0.length : Int)
set_option maxHeartbeats 8000000 in
set_option maxRecDepth 100000 in
theorem impl_Poset_n.calls (A0_0 : Option Addr) (c0_0 : Nat) (l0_0 : List Int) (r : Int) (w : World) (hr0_0 : Kd.C (Kd.int .i64) w A0_0 l0_0.length l0_0) (hc0_0 : l0_0.length ≤ c0_0) (h : impl_Poset_n.f l0_0 = some r) :
    Calls Try.prog 32 #[.agg #[.slice A0_0 l0_0.length c0_0]] w fun e w' => e = .returned (.int .i64 r) ∧ Below w.heap.size w w' := by
  have hu29 := Try.underlying29
  have HR0_0 := Aside0.mk hr0_0
  have HC0_0 := Aside0.mk hc0_0
  clear hr0_0 hc0_0
  have HB := Aside0.mk (Below.refl w.heap.size w)
  have H : (some (l0_0.length : Int)) = some r := h
  clear h
  obtain rfl := Option.some.inj H
  go_enter Try.func32, Try.ntmps32
  go_wp2_with (first | ((with_reducible refine gate_dst (N := 1) rfl ?_); refine box_event ?hg (N := 1) ?hd (cs := #[.slice A0_0 l0_0.length c0_0]) (t := 29) ?hr ?_; (case hd => rfl); (case hg => rfl); (case hr => first | (go_simp; done) | (go_simp; rfl)); intro gb262 hg w2 hbox hb; have n0_ := Aside0.mk (below_step (by repeat (first | (with_reducible first | exact HB.out | apply below_alloc | apply pw_below_drewN | apply below_drew1) | exact HB.out)) hb); have n1_ := Aside0.mk (hbox); have n2_ := Aside0.mk ((by rw [hg]; exact (below_size (by repeat (first | (with_reducible first | exact HB.out | apply below_alloc | apply pw_below_drewN | apply below_drew1) | exact HB.out))) : w.heap.size ≤ gb262)); have n3_ := Aside0.mk ((by rw [hg]; exact (below_size (by repeat (first | (with_reducible first | exact HB.out | apply below_alloc | apply pw_below_drewN | apply below_drew1) | exact HB.out))) : w.heap.size ≤ gb262)); clear HB; have HB := n0_; have BK262 := n1_; have GW262 := n2_; have GE262 := n3_; clear n0_ n1_ n2_ n3_; clear hb hbox hg; have hcz3_0 : w2.cell? ⟨gb262, 0, none⟩ = some (.slice A0_0 l0_0.length c0_0) := (blk_cell BK262.out 0).trans rfl; have hfz3_0 := blk_frozen BK262.out 0))
  go_ret
  exact ⟨by first | rfl | (simp [errW_none, errW_some] <;> rfl) | (simp [*, errW_none, errW_some] <;> rfl), by repeat (first | (with_reducible first | exact HB.out | apply below_alloc | apply pw_below_drewN | apply below_drew1 | refine below_set ?_ GE262.out) | exact HB.out)⟩
def impl_has.f (a0 : Int) (a1 : Int) : Option (Bool) := if 0 ≤ a1 then (some ((Go.bits .and .i64 (shr .i64 a0 a1) 1) == 1)) else (none)
set_option maxHeartbeats 8000000 in
set_option maxRecDepth 100000 in
theorem impl_has.calls (a0 : Int) (a1 : Int) (r : Bool) (w : World) (h : impl_has.f a0 a1 = some r) :
    Calls Try.prog 70 #[.int .i64 a0, .int .i64 a1] w fun e w' => e = .returned (.bool r) ∧ Drawn0 w w' := by
  have H : (if 0 ≤ a1 then (some ((Go.bits .and .i64 (shr .i64 a0 a1) 1) == 1)) else (none)) = some r := h
  clear h
  by_cases c3 : 0 ≤ a1
  · rw [if_pos c3] at H
    have c3b0 := eq_true c3
    have c3b1 : decide (0 ≤ a1) = true := decide_eq_true c3
    clear c3
    obtain ⟨ji4, hji4⟩ : ∃ j_ : Int, (shr .i64 a0 a1) = j_ := ⟨_, rfl⟩
    replace H : (some ((Go.bits .and .i64 (ji4) 1) == 1)) = some r := by first | (rw [hji4] at H; exact H) | (simp only [hji4] at H ⊢; exact H)
    have hji4_ : (a0 / 2 ^ min a1.toNat 64) = ji4 := hji4
    have hji4z : a1 ≤ 64 → (a0 / 2 ^ a1.toNat) = ji4 := shr_small hji4
    obtain rfl := Option.some.inj H
    go_enter Try.func70, Try.ntmps70
    go_wp2
    go_ret
    exact ⟨by first | rfl | (simp; done) | (simp only [← hji4] <;> (first | rfl | simp)) | (simp [*]; done), by repeat (first | exact Drawn0.refl _ | apply Drawn0.step)⟩
  · rw [if_neg c3] at H
    exact absurd H (by simp)
def impl_items.l0 : Nat → Int → List Int → Int → Option (List Int)
  | 0, _, _, _ => none
  | k + 1, x0, x3, x6 => if x6 < 10 then ((impl_has.f x0 x6).bind fun t266 => (if t266 = true then (if x3.length < 17592186044416 then (impl_items.l0 k x0 (x3 ++ [x6]) (wrap64 (x6 + 1))) else (none)) else (impl_items.l0 k x0 x3 (wrap64 (x6 + 1))))) else (some x3)
def impl_items.f (k : Nat) (a0 : Int) : Option (List Int) := impl_items.l0 k a0 (([] : List Int)) 0
theorem impl_items.mono_l : ∀ k, (∀ y0 y1 y2, LeO (impl_items.l0 k y0 y1 y2) (impl_items.l0 (k + 1) y0 y1 y2))
  | 0 => fun _ _ _ r h => by simp [impl_items.l0] at h
  | k + 1 => by
    have ih0 := impl_items.mono_l k
    · intro y0 y1 y2
      unfold impl_items.l0
      repeat' first
      | (with_reducible exact ih0 _ _ _)
      | (with_reducible exact LeO.refl _)
      | (with_reducible exact LeO.none _)
      | (with_reducible refine LeO.ite ?_ ?_)
      | (with_reducible refine LeO.bind ?_ (fun _ => ?_))
      | exact ih0 _ _ _
      | exact LeO.none _
      | refine LeO.ite ?_ ?_
      | refine LeO.bind ?_ (fun _ => ?_)
theorem impl_items.mono : ∀ a0 k, LeO (impl_items.f k a0) (impl_items.f (k + 1) a0) := by
  intro a0 k
  have ih0 := impl_items.mono_l k
  unfold impl_items.f
  repeat' first
      | (with_reducible exact ih0 _ _ _)
      | (with_reducible exact LeO.refl _)
      | (with_reducible exact LeO.none _)
      | (with_reducible refine LeO.ite ?_ ?_)
      | (with_reducible refine LeO.bind ?_ (fun _ => ?_))
      | exact ih0 _ _ _
      | exact LeO.none _
      | refine LeO.ite ?_ ?_
      | refine LeO.bind ?_ (fun _ => ?_)
set_option maxHeartbeats 8000000 in
set_option maxRecDepth 100000 in
theorem impl_items.calls (k : Nat) (a0 : Int) (r : List Int) (w : World) (h : impl_items.f k a0 = some r) :
    Calls Try.prog 54 #[.int .i64 a0] w fun e w' => ∃ v0_ : Value, e = .returned (v0_) ∧ Kd.R (Kd.int .i64) 3 w' w.heap.size (fun _ => True) v0_ r ∧ Below w.heap.size w w' := by
  have HB := Aside0.mk (Below.refl w.heap.size w)
  have H : (impl_items.l0 k a0 (([] : List Int)) 0) = some r := h
  clear h
  obtain ⟨y263, hy263⟩ : ∃ y_ : List Int, y_ = (([] : List Int)) := ⟨_, rfl⟩
  replace H : (impl_items.l0 k a0 y263 0) = some r := by first | (rw [hy263]; with_reducible exact H) | (have H2_ := (Option.bind_some _ _).symm.trans H; rw [hy263]; with_reducible exact H2_) | (have H2_ := (Option.bind_some _ _).symm.trans H; with_reducible exact H2_) | with_reducible exact H | (rw [hy263]; exact H) | exact H
  have Ny263 := Aside0.mk hy263
  clear hy263
  have H' := Aside0.mk H
  clear H
  go_enter Try.func54, Try.ntmps54
  go_wp2_with (first | ((with_reducible refine gate_dst (N := 5) rfl ?_); refine Kd.R_lit (Kd.int .i64) _ 3 ?hg (N := 5) ?hd (xs := ([] : List Int)) (inner := []) (ok := fun _ => True) (okp := fun _ => True) ?hr ?hp (fun _ hk => hk) trivial (Below.refl _ _) (Nat.le_refl _) (by simp) ?_; (case hd => rfl); (case hg => rfl); (case hr => first | (go_simp; done) | (go_simp; rfl)); (case hp => exact (Reps.none _ _)); intro v264 w2 ho3 hb hg_ hnew_; clear hg_ hnew_; (first | rw [← Ny263.out] at ho3 | (simp only [Int.reduceToNat] at ho3; rw [← Ny263.out] at ho3)); have n0_ := Aside0.mk (Kd.R_lower ho3 (below_size (by repeat (first | (with_reducible first | exact HB.out | apply below_alloc | apply pw_below_drewN | apply below_drew1) | exact HB.out)))); have n1_ := Aside0.mk (below_step (by repeat (first | (with_reducible first | exact HB.out | apply below_alloc | apply pw_below_drewN | apply below_drew1) | exact HB.out)) hb); clear HB; have HO265 := n0_; have HB := n1_; clear n0_ n1_; clear hb ho3))
  go_loopg [3, 6] k (fun kq v3 v6 w' => ∃ (x3_1 : List Int) (x6_1 : Int), v6 = .int .i64 x6_1 ∧ Aside0 (impl_items.l0 kq a0 x3_1 x6_1 = some r) ∧ Aside0 (kq ≤ k) ∧ Aside0 (Kd.R (Kd.int .i64) 3 w' w.heap.size (fun _ => True) v3 x3_1) ∧ Aside0 (Below w.heap.size w w'))
  case atStart => exact ⟨(y263), (0), (by first | rfl | (simp; done) | (simp [*]; done)), H', ⟨Nat.le_refl _⟩, ⟨by (with_reducible repeat (first | apply Kd.R_alloc | apply Kd.R_drewN | apply Kd.R_drew)); exact HO265.out⟩, ⟨by repeat (first | (with_reducible first | exact HB.out | apply below_alloc | apply pw_below_drewN | apply below_drew1) | exact HB.out)⟩⟩
  case round =>
    clear H'
    try clear p2
    obtain ⟨x3_1, x6_1, rfl, HA, HK1, HO_3, HB⟩ := hrel
    cases gk with
    | zero => exact absurd HA.out (by simp [impl_items.l0])
    | succ k1 =>
      have H := HA.out
      clear HA
      simp only [impl_items.l0] at H
      by_cases c4 : x6_1 < 10
      · rw [if_pos c4] at H
        have c4b0 : decide (x6_1 < 10) = true := decide_eq_true c4
        clear c4
        replace H := Option.bind_eq_some_iff.mp H
        obtain ⟨t266, A50, H⟩ := H
        replace H : (if t266 = true then (if x3_1.length < 17592186044416 then (impl_items.l0 k1 a0 (x3_1 ++ [x6_1]) (wrap64 (x6_1 + 1))) else (none)) else (impl_items.l0 k1 a0 x3_1 (wrap64 (x6_1 + 1)))) = some r := H
        have A5 := Aside0.mk A50
        clear A50
        by_cases c6 : t266 = true
        · subst c6
          have H1 : (if x3_1.length < 17592186044416 then (impl_items.l0 k1 a0 (x3_1 ++ [x6_1]) (wrap64 (x6_1 + 1))) else (none)) = some r := by rw [if_pos rfl] at H; exact H
          clear H
          have H := H1
          clear H1
          by_cases c7 : x3_1.length < 17592186044416
          · rw [if_pos c7] at H
            have LMc7 := Aside0.mk c7
            clear c7
            obtain ⟨y267, hy267⟩ : ∃ y_ : List Int, y_ = (x3_1 ++ [x6_1]) := ⟨_, rfl⟩
            replace H : (impl_items.l0 k1 a0 y267 (wrap64 (x6_1 + 1))) = some r := by first | (rw [hy267]; with_reducible exact H) | (have H2_ := (Option.bind_some _ _).symm.trans H; rw [hy267]; with_reducible exact H2_) | (have H2_ := (Option.bind_some _ _).symm.trans H; with_reducible exact H2_) | with_reducible exact H | (rw [hy267]; exact H) | exact H
            have Ny267 := Aside0.mk hy267
            clear hy267
            have H' := Aside0.mk H
            clear H
            go_wp2_with (first | ((with_reducible refine gate_callee (f := 70) rfl ?_); refine goesL_ (some 11) rfl rfl Try.func70 (by kernel_rfl) rfl #[.int .i64 a0, .int .i64 x6_1] rfl (by (try simp only [List.map_toArray, List.map_cons, List.map_nil]); first | done | rfl | (simp only [List.length_drop, List.length_take]; rfl)) ?_; (with_reducible refine (impl_has.calls a0 x6_1 true _ A5.out).mono ?_); rintro e w' ⟨rfl, ⟨nd, rfl⟩⟩; refine ⟨_, rfl, ?_⟩) | ((with_reducible refine gate_builtin (b := .append) (xs := #[.tmp 12, .tmp 14]) rfl ?_); at_builtin; refine Kd.R_append (Kd.int .i64) (w0 := w) w.heap.size rfl (.tmp 12) (.tmp 14) 22 3 (.int .i64 0) 8 rfl Try.underlying22 info3 rfl (by decide) (by omega) u3 x3_1 x6_1 [.int .i64 x6_1] (fun _ => True) (fun _ => False) rfl rfl ?aP (fun _ hk => hk.elim) ?aF ?aO ?aB ?aS ?aL ?_; (case aP => exact rfl); (case aB => exact (by repeat (first | (with_reducible first | exact HB.out | apply below_alloc | apply pw_below_drewN | apply below_drew1) | exact HB.out))); (case aF => exact (fun _ _ => trivial)); (case aO => exact (by (with_reducible repeat (first | apply Kd.R_alloc | apply Kd.R_drewN | apply Kd.R_drew)); exact HO_3.out)); (case aS => exact (below_size (by repeat (first | (with_reducible first | exact HB.out | apply below_alloc | apply pw_below_drewN | apply below_drew1) | exact HB.out)))); (case aL => have := LMc7.out; omega); intro v268 w8 ho hb hg hat; rw [← Ny267.out] at ho; have n0_ := Aside0.mk (hb); have n1_ := Aside0.mk (ho); clear HB; clear HO_3; have HB := n0_; have HO269 := n1_; clear n0_ n1_; clear ho hb hg hat))
            go_roundg k1
            case measure => have := HK1.out; omega
            case rel => exact ⟨(y267), (wrap64 (x6_1 + 1)), (by first | rfl | (simp; done) | (simp [*]; done)), H', ⟨by have := HK1.out; omega⟩, ⟨by (with_reducible repeat (first | apply Kd.R_alloc | apply Kd.R_drewN | apply Kd.R_drew)); exact HO269.out⟩, ⟨by repeat (first | (with_reducible first | exact HB.out | apply below_alloc | apply pw_below_drewN | apply below_drew1) | exact HB.out)⟩⟩
          · rw [if_neg c7] at H
            exact absurd H (by simp)
        · replace c6 := Bool.eq_false_iff.mpr c6
          subst c6
          have H1 : (impl_items.l0 k1 a0 x3_1 (wrap64 (x6_1 + 1))) = some r := by rw [if_neg (show ¬ (false = true) by decide)] at H; exact H
          clear H
          have H := H1
          clear H1
          have H' := Aside0.mk H
          clear H
          go_wp2_with (first | ((with_reducible refine gate_callee (f := 70) rfl ?_); refine goesL_ (some 11) rfl rfl Try.func70 (by kernel_rfl) rfl #[.int .i64 a0, .int .i64 x6_1] rfl (by (try simp only [List.map_toArray, List.map_cons, List.map_nil]); first | done | rfl | (simp only [List.length_drop, List.length_take]; rfl)) ?_; (with_reducible refine (impl_has.calls a0 x6_1 false _ A5.out).mono ?_); rintro e w' ⟨rfl, ⟨nd, rfl⟩⟩; refine ⟨_, rfl, ?_⟩))
          go_roundg k1
          case measure => have := HK1.out; omega
          case rel => exact ⟨(x3_1), (wrap64 (x6_1 + 1)), (by first | rfl | (simp; done) | (simp [*]; done)), H', ⟨by have := HK1.out; omega⟩, ⟨by (with_reducible repeat (first | apply Kd.R_alloc | apply Kd.R_drewN | apply Kd.R_drew)); exact HO_3.out⟩, ⟨by repeat (first | (with_reducible first | exact HB.out | apply below_alloc | apply pw_below_drewN | apply below_drew1) | exact HB.out)⟩⟩
      · rw [if_neg c4] at H
        have c4b0 : decide (x6_1 < 10) = false := decide_eq_false c4
        clear c4
        obtain rfl := Option.some.inj H
        go_wp2
        go_ret
        exact ⟨_, by first | rfl | (simp [errW_none, errW_some] <;> rfl) | (simp [*, errW_none, errW_some] <;> rfl), by (with_reducible repeat (first | apply Kd.R_alloc | apply Kd.R_drewN | apply Kd.R_drew)); exact HO_3.out, by repeat (first | (with_reducible first | exact HB.out | apply below_alloc | apply pw_below_drewN | apply below_drew1) | exact HB.out)⟩
mutual
def impl_IsPoset.l0 : Nat → List Int → Int → Int → List Int → Option (Bool)
  | 0, _, _, _, _ => none
  | k + 1, x12, x13, x14, x271000 => if x14 < x13 then (if 0 ≤ x14 then (if x14 < (x12.length : Int) then ((impl_within.f (rd x12 x14) 0 (wrap64 ((shl .i64 1 x14) - 1))).bind fun t274 => (if t274 = true then ((impl_items.f k (rd x12 x14)).bind fun t275 => (impl_IsPoset.l1 k (rd x12 x14) x12 x13 x14 t275 (t275.length : Int) 0 x271000)) else (some false))) else (none)) else (none)) else (some true)
def impl_IsPoset.l1 : Nat → Int → List Int → Int → Int → List Int → Int → Int → List Int → Option (Bool)
  | 0, _, _, _, _, _, _, _, _ => none
  | k + 1, x4, x12, x13, x14, x26, x27, x28, x271000 => if x28 < x27 then (if 0 ≤ x28 then (if x28 < (x26.length : Int) then (if 0 ≤ (rd x26 x28) then (if (rd x26 x28) < (x271000.length : Int) then (if (Go.bits .andNot .i64 (rd x271000 (rd x26 x28)) x4) = 0 then (impl_IsPoset.l1 k x4 x12 x13 x14 x26 x27 (wrap64 (x28 + 1)) x271000) else (some false)) else (none)) else (none)) else (none)) else (none)) else (impl_IsPoset.l0 k x12 x13 (wrap64 (x14 + 1)) x271000)
end
def impl_IsPoset.f (k : Nat) (l0_0 : List Int) : Option (Bool) := (impl_Poset_n.f l0_0).bind fun t271 => ((impl_within.f t271 1 10).bind fun t272 => (if t272 = true then (impl_IsPoset.l0 k l0_0 (l0_0.length : Int) 0 l0_0) else (some false)))
theorem impl_IsPoset.mono_l : ∀ k, (∀ y0 y1 y2 y3, LeO (impl_IsPoset.l0 k y0 y1 y2 y3) (impl_IsPoset.l0 (k + 1) y0 y1 y2 y3)) ∧ (∀ y0 y1 y2 y3 y4 y5 y6 y7, LeO (impl_IsPoset.l1 k y0 y1 y2 y3 y4 y5 y6 y7) (impl_IsPoset.l1 (k + 1) y0 y1 y2 y3 y4 y5 y6 y7))
  | 0 => ⟨fun _ _ _ _ r h => by simp [impl_IsPoset.l0] at h, fun _ _ _ _ _ _ _ _ r h => by simp [impl_IsPoset.l1] at h⟩
  | k + 1 => by
    obtain ⟨ih0, ih1⟩ := impl_IsPoset.mono_l k
    refine ⟨?_, ?_⟩
    · intro y0 y1 y2 y3
      unfold impl_IsPoset.l0
      repeat' first
      | (with_reducible exact ih0 _ _ _ _)
      | (with_reducible exact ih1 _ _ _ _ _ _ _ _)
      | (with_reducible exact impl_items.mono _ _)
      | (with_reducible exact LeO.refl _)
      | (with_reducible exact LeO.none _)
      | (with_reducible refine LeO.ite ?_ ?_)
      | (with_reducible refine LeO.bind ?_ (fun _ => ?_))
      | exact ih0 _ _ _ _
      | exact ih1 _ _ _ _ _ _ _ _
      | exact impl_items.mono _ _
      | exact LeO.none _
      | refine LeO.ite ?_ ?_
      | refine LeO.bind ?_ (fun _ => ?_)
    · intro y0 y1 y2 y3 y4 y5 y6 y7
      unfold impl_IsPoset.l1
      repeat' first
      | (with_reducible exact ih0 _ _ _ _)
      | (with_reducible exact ih1 _ _ _ _ _ _ _ _)
      | (with_reducible exact impl_items.mono _ _)
      | (with_reducible exact LeO.refl _)
      | (with_reducible exact LeO.none _)
      | (with_reducible refine LeO.ite ?_ ?_)
      | (with_reducible refine LeO.bind ?_ (fun _ => ?_))
      | exact ih0 _ _ _ _
      | exact ih1 _ _ _ _ _ _ _ _
      | exact impl_items.mono _ _
      | exact LeO.none _
      | refine LeO.ite ?_ ?_
      | refine LeO.bind ?_ (fun _ => ?_)
theorem impl_IsPoset.mono : ∀ a0 k, LeO (impl_IsPoset.f k a0) (impl_IsPoset.f (k + 1) a0) := by
  intro a0 k
  obtain ⟨ih0, ih1⟩ := impl_IsPoset.mono_l k
  unfold impl_IsPoset.f
  repeat' first
      | (with_reducible exact ih0 _ _ _ _)
      | (with_reducible exact ih1 _ _ _ _ _ _ _ _)
      | (with_reducible exact impl_items.mono _ _)
      | (with_reducible exact LeO.refl _)
      | (with_reducible exact LeO.none _)
      | (with_reducible refine LeO.ite ?_ ?_)
      | (with_reducible refine LeO.bind ?_ (fun _ => ?_))
      | exact ih0 _ _ _ _
      | exact ih1 _ _ _ _ _ _ _ _
      | exact impl_items.mono _ _
      | exact LeO.none _
      | refine LeO.ite ?_ ?_
      | refine LeO.bind ?_ (fun _ => ?_)
set_option maxHeartbeats 8000000 in
set_option maxRecDepth 100000 in
theorem impl_IsPoset.calls (k : Nat) (A0_0 : Option Addr) (c0_0 : Nat) (l0_0 : List Int) (r : Bool) (w : World) (hr0_0 : Kd.C (Kd.int .i64) w A0_0 l0_0.length l0_0) (hc0_0 : l0_0.length ≤ c0_0) (h : impl_IsPoset.f k l0_0 = some r) :
    Calls Try.prog 30 #[.agg #[.slice A0_0 l0_0.length c0_0]] w fun e w' => e = .returned (.bool r) ∧ Below w.heap.size w w' := by
  have hu29 := Try.underlying29
  have HR0_0 := Aside0.mk hr0_0
  have HC0_0 := Aside0.mk hc0_0
  clear hr0_0 hc0_0
  have HB := Aside0.mk (Below.refl w.heap.size w)
  have H : ((impl_Poset_n.f l0_0).bind fun t271 => ((impl_within.f t271 1 10).bind fun t272 => (if t272 = true then (impl_IsPoset.l0 k l0_0 (l0_0.length : Int) 0 l0_0) else (some false)))) = some r := h
  clear h
  replace H := Option.bind_eq_some_iff.mp H
  obtain ⟨t271, A20, H⟩ := H
  replace H : ((impl_within.f t271 1 10).bind fun t272 => (if t272 = true then (impl_IsPoset.l0 k l0_0 (l0_0.length : Int) 0 l0_0) else (some false))) = some r := H
  have A2 := Aside0.mk A20
  clear A20
  replace H := Option.bind_eq_some_iff.mp H
  obtain ⟨t272, A30, H⟩ := H
  replace H : (if t272 = true then (impl_IsPoset.l0 k l0_0 (l0_0.length : Int) 0 l0_0) else (some false)) = some r := H
  have A3 := Aside0.mk A30
  clear A30
  by_cases c4 : t272 = true
  · subst c4
    have H1 : (impl_IsPoset.l0 k l0_0 (l0_0.length : Int) 0 l0_0) = some r := by rw [if_pos rfl] at H; exact H
    clear H
    have H := H1
    clear H1
    have H' := Aside0.mk H
    clear H
    go_enter Try.func30, Try.ntmps30
    go_wp2_with (first | ((with_reducible refine gate_dst (N := 1) rfl ?_); refine box_event ?hg (N := 1) ?hd (cs := #[.slice A0_0 l0_0.length c0_0]) (t := 29) ?hr ?_; (case hd => rfl); (case hg => rfl); (case hr => first | (go_simp; done) | (go_simp; rfl)); intro gb270 hg w5 hbox hb; have n0_ := Aside0.mk (below_step (by repeat (first | (with_reducible first | exact HB.out | apply below_alloc | apply pw_below_drewN | apply below_drew1) | exact HB.out)) hb); have n1_ := Aside0.mk (hbox); have n2_ := Aside0.mk ((by rw [hg]; exact (below_size (by repeat (first | (with_reducible first | exact HB.out | apply below_alloc | apply pw_below_drewN | apply below_drew1) | exact HB.out))) : w.heap.size ≤ gb270)); have n3_ := Aside0.mk ((by rw [hg]; exact (below_size (by repeat (first | (with_reducible first | exact HB.out | apply below_alloc | apply pw_below_drewN | apply below_drew1) | exact HB.out))) : w.heap.size ≤ gb270)); clear HB; have HB := n0_; have BK270 := n1_; have GW270 := n2_; have GE270 := n3_; clear n0_ n1_ n2_ n3_; clear hb hbox hg; have hcz6_0 : w5.cell? ⟨gb270, 0, none⟩ = some (.slice A0_0 l0_0.length c0_0) := (blk_cell BK270.out 0).trans rfl; have hfz6_0 := blk_frozen BK270.out 0) | ((with_reducible refine gate_callee (f := 32) rfl ?_); refine goesL_ (some 8) rfl rfl Try.func32 (by kernel_rfl) rfl #[.agg #[.slice A0_0 l0_0.length c0_0]] rfl (by (try simp only [List.map_toArray, List.map_cons, List.map_nil]); first | done | rfl | (simp only [List.length_drop, List.length_take]; rfl)) ?_; (with_reducible refine (impl_Poset_n.calls _ _ l0_0 t271 _ ?side1 ?side2 A2.out).mono ?_); (case side1 => repeat (first | exact (Kd.C_below HR0_0.out HB.out) | (with_reducible refine Kd.C_alloc ?_ _) | (with_reducible refine Kd.C_drewN ?_ _) | (with_reducible refine Kd.C_drew ?_))); (case side2 => exact HC0_0.out); rintro e w7 ⟨rfl, hb⟩; refine ⟨_, rfl, ?_⟩; have n0_ := Aside0.mk (blk_below (g := gb270) (o := .cells #[.slice A0_0 l0_0.length c0_0] 29 (0, 0)) (by (with_reducible repeat (first | refine blk_drewN ?_ _ | refine blk_drew ?_ | refine blk_alloc ?_ _)); exact BK270.out) hb); have n1_ := Aside0.mk (below_step (by repeat (first | (with_reducible first | exact HB.out | apply below_alloc | apply pw_below_drewN | apply below_drew1 | refine below_set ?_ GE270.out) | exact HB.out)) hb); clear BK270; clear HB; have BK270 := n0_; have HB := n1_; clear n0_ n1_; (try clear hb); (try clear hb2); (try clear hk); (try clear hi)) | ((with_reducible refine gate_callee (f := 31) rfl ?_); refine goesL_ (some 9) rfl rfl Try.func31 (by kernel_rfl) rfl #[.int .i64 t271, .int .i64 1, .int .i64 10] rfl (by (try simp only [List.map_toArray, List.map_cons, List.map_nil]); first | done | rfl | (simp only [List.length_drop, List.length_take]; rfl)) ?_; (with_reducible refine (impl_within.calls t271 1 10 true _ A3.out).mono ?_); rintro e w' ⟨rfl, ⟨nd, rfl⟩⟩; refine ⟨_, rfl, ?_⟩; have hcz8_0 : w7.cell? ⟨gb270, 0, none⟩ = some (.slice A0_0 l0_0.length c0_0) := (blk_cell BK270.out 0).trans rfl; have hfz8_0 := blk_frozen BK270.out 0))
    go_loopg [14] k (fun kq v14 w' => ∃ (x14_1 : Int), v14 = .int .i64 x14_1 ∧ Aside0 (impl_IsPoset.l0 kq l0_0 (l0_0.length : Int) x14_1 l0_0 = some r) ∧ Aside0 (kq ≤ k) ∧ Aside0 (w'.heap[gb270]? = some (.cells #[(.slice A0_0 l0_0.length c0_0)] 29 (0, 0))) ∧ Aside0 (Below w.heap.size w w'))
    case atStart => exact ⟨(0), (by first | rfl | (simp; done) | (simp [*]; done)), H', ⟨Nat.le_refl _⟩, ⟨by (with_reducible repeat (first | refine blk_drewN ?_ _ | refine blk_drew ?_ | refine blk_alloc ?_ _)); exact BK270.out⟩, ⟨by repeat (first | (with_reducible first | exact HB.out | apply below_alloc | apply pw_below_drewN | apply below_drew1 | refine below_set ?_ GE270.out) | exact HB.out)⟩⟩
    case round =>
      clear H'
      try clear p2
      try clear c3
      try clear c4
      try clear hcz6_0
      try clear hcz8_0
      try clear hfz6_0
      try clear hfz8_0
      obtain ⟨x14_1, rfl, HA, HK1, BK270, HB⟩ := hrel
      cases gk with
      | zero => exact absurd HA.out (by simp [impl_IsPoset.l0])
      | succ k1 =>
        have H := HA.out
        clear HA
        simp only [impl_IsPoset.l0] at H
        by_cases c9 : x14_1 < (l0_0.length : Int)
        · rw [if_pos c9] at H
          have c9b0 : decide (x14_1 < (l0_0.length : Int)) = true := decide_eq_true c9
          clear c9
          by_cases c10 : 0 ≤ x14_1
          · rw [if_pos c10] at H
            have c10b0 : decide (0 ≤ x14_1) = true := decide_eq_true c10
            clear c10
            by_cases c11 : x14_1 < (l0_0.length : Int)
            · rw [if_pos c11] at H
              have c11b0 : decide (x14_1 < (l0_0.length : Int)) = true := decide_eq_true c11
              clear c11
              have c12b0 := eq_true (of_decide_eq_true (by first | (with_reducible assumption) | assumption) : 0 ≤ x14_1)
              obtain ⟨ji13, hji13⟩ : ∃ j_ : Int, (shl .i64 1 x14_1) = j_ := ⟨_, rfl⟩
              replace H : ((impl_within.f (rd l0_0 x14_1) 0 (wrap64 ((ji13) - 1))).bind fun t274 => (if t274 = true then ((impl_items.f k1 (rd l0_0 x14_1)).bind fun t275 => (impl_IsPoset.l1 k1 (rd l0_0 x14_1) l0_0 (l0_0.length : Int) x14_1 t275 (t275.length : Int) 0 l0_0)) else (some false))) = some r := by first | (rw [hji13] at H; exact H) | (simp only [hji13] at H ⊢; exact H)
              have hji13_ : (IntKind.i64.wrap (1 * 2 ^ min x14_1.toNat 64)) = ji13 := hji13
              have hji13z : x14_1 ≤ 64 → (IntKind.i64.wrap (1 * 2 ^ x14_1.toNat)) = ji13 := shl_small hji13
              have hji13u : (IntKind.i64.wrap (2 ^ min x14_1.toNat 64)) = ji13 := by have h_ := hji13_; rw [Int.one_mul] at h_; exact h_
              have hji13v : x14_1 ≤ 64 → (IntKind.i64.wrap (2 ^ x14_1.toNat)) = ji13 := fun hle_ => by have h_ := hji13z hle_; rw [Int.one_mul] at h_; exact h_
              have hji13y : (wrap64 (1 * 2 ^ min x14_1.toNat 64)) = ji13 := (i64_w _).symm.trans hji13_
              have hji13x : x14_1 ≤ 64 → (wrap64 (1 * 2 ^ x14_1.toNat)) = ji13 := fun h_ => (i64_w _).symm.trans (hji13z h_)
              replace H := Option.bind_eq_some_iff.mp H
              obtain ⟨t274, A140, H⟩ := H
              replace H : (if t274 = true then ((impl_items.f k1 (rd l0_0 x14_1)).bind fun t275 => (impl_IsPoset.l1 k1 (rd l0_0 x14_1) l0_0 (l0_0.length : Int) x14_1 t275 (t275.length : Int) 0 l0_0)) else (some false)) = some r := H
              have A14 := Aside0.mk A140
              clear A140
              by_cases c15 : t274 = true
              · subst c15
                have H1 : ((impl_items.f k1 (rd l0_0 x14_1)).bind fun t275 => (impl_IsPoset.l1 k1 (rd l0_0 x14_1) l0_0 (l0_0.length : Int) x14_1 t275 (t275.length : Int) 0 l0_0)) = some r := by rw [if_pos rfl] at H; exact H
                clear H
                have H := H1
                clear H1
                replace H := Option.bind_eq_some_iff.mp H
                obtain ⟨t275, A160, H⟩ := H
                replace H : (impl_IsPoset.l1 k1 (rd l0_0 x14_1) l0_0 (l0_0.length : Int) x14_1 t275 (t275.length : Int) 0 l0_0) = some r := H
                have A16 := Aside0.mk A160
                clear A160
                have H' := Aside0.mk H
                clear H
                have p273 : 0 ≤ (x14_1 : Int) := of_decide_eq_true (by first | (with_reducible assumption) | assumption)
                have q273 : x14_1 < (l0_0.length : Int) := of_decide_eq_true (by first | (with_reducible assumption) | assumption)
                obtain ⟨ad273, e273, hx273_0⟩ := Kd.at_int HR0_0.out x14_1 p273 q273
                cases e273
                replace hx273_0 := (HB.out.cell (World.block_lt_of_cell? w _ hx273_0)).trans hx273_0
                replace p273 := eq_true p273
                replace q273 := eq_true q273
                go_wp2_with (first | ((with_reducible refine gate_callee (f := 31) rfl ?_); refine goesL_ (some 23) rfl rfl Try.func31 (by kernel_rfl) rfl #[.int .i64 (rd l0_0 x14_1), .int .i64 0, .int .i64 (wrap64 ((ji13) - 1))] rfl (by (try simp only [List.map_toArray, List.map_cons, List.map_nil]); first | done | (simp only [hji13]; rfl) | rfl | (simp only [List.length_drop, List.length_take]; rfl)) ?_; (with_reducible refine (impl_within.calls (rd l0_0 x14_1) 0 (wrap64 ((ji13) - 1)) true _ A14.out).mono ?_); rintro e w' ⟨rfl, ⟨nd, rfl⟩⟩; refine ⟨_, rfl, ?_⟩) | ((with_reducible refine gate_callee (f := 54) rfl ?_); refine goesL_ (some 26) rfl rfl Try.func54 (by kernel_rfl) rfl #[.int .i64 (rd l0_0 x14_1)] rfl (by (try simp only [List.map_toArray, List.map_cons, List.map_nil]); first | done | rfl | (simp only [List.length_drop, List.length_take]; rfl)) ?_; (with_reducible refine (impl_items.calls k1 (rd l0_0 x14_1) t275 _ A16.out).mono ?_); rintro e w17 ⟨v276, rfl, ho0, hb⟩; refine ⟨_, rfl, ?_⟩; have n0_ := Aside0.mk (Kd.R_lower ho0 (below_size (by repeat (first | (with_reducible first | exact HB.out | apply below_alloc | apply pw_below_drewN | apply below_drew1 | refine below_set ?_ GE270.out) | exact HB.out)))); have n1_ := Aside0.mk (blk_below (g := gb270) (o := .cells #[.slice (some ad273) l0_0.length c0_0] 29 (0, 0)) (by (with_reducible repeat (first | refine blk_drewN ?_ _ | refine blk_drew ?_ | refine blk_alloc ?_ _)); exact BK270.out) hb); have n2_ := Aside0.mk (below_step (by repeat (first | (with_reducible first | exact HB.out | apply below_alloc | apply pw_below_drewN | apply below_drew1 | refine below_set ?_ GE270.out) | exact HB.out)) hb); clear BK270; clear HB; have HO277 := n0_; have BK270 := n1_; have HB := n2_; clear n0_ n1_ n2_; (try clear hb); (try clear hb2); (try clear hk); (try clear hi); (try clear ho0); obtain ⟨Ao18, co18, eo18⟩ := Kd.R_slice HO277.out; subst eo18))
                go_loopg [28] k1 (fun kq v28 w' => ∃ (x28_2 : Int), v28 = .int .i64 x28_2 ∧ Aside0 (impl_IsPoset.l1 kq (rd l0_0 x14_1) l0_0 (l0_0.length : Int) x14_1 t275 (t275.length : Int) x28_2 l0_0 = some r) ∧ Aside0 (kq ≤ k1) ∧ Aside0 (Kd.R (Kd.int .i64) 3 w' w.heap.size (fun _ => True) (.slice Ao18 t275.length co18) t275) ∧ Aside0 (w'.heap[gb270]? = some (.cells #[(.slice (some ad273) l0_0.length c0_0)] 29 (0, 0))) ∧ Aside0 (Below w.heap.size w w'))
                case atStart => exact ⟨(0), (by first | rfl | (simp; done) | (simp [*]; done)), H', ⟨Nat.le_refl _⟩, ⟨by (with_reducible repeat (first | apply Kd.R_alloc | apply Kd.R_drewN | apply Kd.R_drew)); exact HO277.out⟩, ⟨by (with_reducible repeat (first | refine blk_drewN ?_ _ | refine blk_drew ?_ | refine blk_alloc ?_ _)); exact BK270.out⟩, ⟨by repeat (first | (with_reducible first | exact HB.out | apply below_alloc | apply pw_below_drewN | apply below_drew1 | refine below_set ?_ GE270.out) | exact HB.out)⟩⟩
                case round =>
                  clear H'
                  try clear c1
                  try clear p2
                  try clear q2
                  try clear hx2
                  try clear c3
                  try clear c4
                  try clear c5
                  try clear p6
                  try clear c9
                  try clear c9b0
                  try clear c10
                  try clear c10b0
                  try clear c11
                  try clear c11b0
                  try clear c12
                  try clear c12b0
                  try clear c15
                  try clear hcz6_0
                  try clear hcz8_0
                  try clear hfz6_0
                  try clear hfz8_0
                  try clear hx273_0
                  try clear p2
                  try clear p273
                  try clear q273
                  obtain ⟨x28_2, rfl, HA, HK2, HO_26, BK270, HB⟩ := hrel
                  cases gk with
                  | zero => exact absurd HA.out (by simp [impl_IsPoset.l1])
                  | succ k2 =>
                    have H := HA.out
                    clear HA
                    simp only [impl_IsPoset.l1] at H
                    by_cases c19 : x28_2 < (t275.length : Int)
                    · rw [if_pos c19] at H
                      have c19b0 : decide (x28_2 < (t275.length : Int)) = true := decide_eq_true c19
                      clear c19
                      by_cases c20 : 0 ≤ x28_2
                      · rw [if_pos c20] at H
                        have c20b0 : decide (0 ≤ x28_2) = true := decide_eq_true c20
                        clear c20
                        by_cases c21 : x28_2 < (t275.length : Int)
                        · rw [if_pos c21] at H
                          have c21b0 : decide (x28_2 < (t275.length : Int)) = true := decide_eq_true c21
                          clear c21
                          by_cases c22 : 0 ≤ (rd t275 x28_2)
                          · rw [if_pos c22] at H
                            have c22b0 : decide (0 ≤ (rd t275 x28_2)) = true := decide_eq_true c22
                            clear c22
                            by_cases c23 : (rd t275 x28_2) < (l0_0.length : Int)
                            · rw [if_pos c23] at H
                              have c23b0 : decide ((rd t275 x28_2) < (l0_0.length : Int)) = true := decide_eq_true c23
                              clear c23
                              by_cases c24 : (Go.bits .andNot .i64 (rd l0_0 (rd t275 x28_2)) (rd l0_0 x14_1)) = 0
                              · rw [if_pos c24] at H
                                have c24b0 : ((Go.bits .andNot .i64 (rd l0_0 (rd t275 x28_2)) (rd l0_0 x14_1)) == 0) = true := beq_iff_eq.mpr c24
                                have c24b1 : ((Go.bits .andNot .i64 (rd l0_0 (rd t275 x28_2)) (rd l0_0 x14_1)) != 0) = false := bne_eq_false_iff_eq.mpr c24
                                clear c24
                                have H' := Aside0.mk H
                                clear H
                                have p278 : 0 ≤ (x28_2 : Int) := of_decide_eq_true (by first | (with_reducible assumption) | assumption)
                                have q278 : x28_2 < (t275.length : Int) := of_decide_eq_true (by first | (with_reducible assumption) | assumption)
                                obtain ⟨ad278, e278, hx278_0⟩ := Kd.at_int (Kd.R_reads' HO_26.out).2.2 x28_2 p278 q278
                                cases e278
                                replace p278 := eq_true p278
                                replace q278 := eq_true q278
                                have hcz25_0 : wr.cell? ⟨gb270, 0, none⟩ = some (.slice (some ad273) l0_0.length c0_0) := (blk_cell BK270.out 0).trans rfl
                                have hfz25_0 := blk_frozen BK270.out 0
                                have p279 : 0 ≤ ((rd t275 x28_2) : Int) := of_decide_eq_true (by first | (with_reducible assumption) | assumption)
                                have q279 : (rd t275 x28_2) < (l0_0.length : Int) := of_decide_eq_true (by first | (with_reducible assumption) | assumption)
                                obtain ⟨ad279, e279, hx279_0⟩ := Kd.at_int HR0_0.out (rd t275 x28_2) p279 q279
                                obtain rfl : ad273 = ad279 := (by injection e279)
                                replace hx279_0 := (HB.out.cell (World.block_lt_of_cell? w _ hx279_0)).trans hx279_0
                                replace p279 := eq_true p279
                                replace q279 := eq_true q279
                                go_wp2
                                go_roundg k2
                                case measure => have := HK1.out; have := HK2.out; omega
                                case rel => exact ⟨(wrap64 (x28_2 + 1)), (by first | rfl | (simp; done) | (simp [*]; done)), H', ⟨by have := HK1.out; have := HK2.out; omega⟩, ⟨by (with_reducible repeat (first | apply Kd.R_alloc | apply Kd.R_drewN | apply Kd.R_drew)); exact HO_26.out⟩, ⟨by (with_reducible repeat (first | refine blk_drewN ?_ _ | refine blk_drew ?_ | refine blk_alloc ?_ _)); exact BK270.out⟩, ⟨by repeat (first | (with_reducible first | exact HB.out | apply below_alloc | apply pw_below_drewN | apply below_drew1 | refine below_set ?_ GE270.out) | exact HB.out)⟩⟩
                              · rw [if_neg c24] at H
                                have c24b0 : ((Go.bits .andNot .i64 (rd l0_0 (rd t275 x28_2)) (rd l0_0 x14_1)) == 0) = false := beq_eq_false_iff_ne.mpr c24
                                have c24b1 : ((Go.bits .andNot .i64 (rd l0_0 (rd t275 x28_2)) (rd l0_0 x14_1)) != 0) = true := bne_iff_ne.mpr c24
                                obtain rfl := Option.some.inj H
                                have p278 : 0 ≤ (x28_2 : Int) := of_decide_eq_true (by first | (with_reducible assumption) | assumption)
                                have q278 : x28_2 < (t275.length : Int) := of_decide_eq_true (by first | (with_reducible assumption) | assumption)
                                obtain ⟨ad278, e278, hx278_0⟩ := Kd.at_int (Kd.R_reads' HO_26.out).2.2 x28_2 p278 q278
                                cases e278
                                replace p278 := eq_true p278
                                replace q278 := eq_true q278
                                have hcz26_0 : wr.cell? ⟨gb270, 0, none⟩ = some (.slice (some ad273) l0_0.length c0_0) := (blk_cell BK270.out 0).trans rfl
                                have hfz26_0 := blk_frozen BK270.out 0
                                have p279 : 0 ≤ ((rd t275 x28_2) : Int) := of_decide_eq_true (by first | (with_reducible assumption) | assumption)
                                have q279 : (rd t275 x28_2) < (l0_0.length : Int) := of_decide_eq_true (by first | (with_reducible assumption) | assumption)
                                obtain ⟨ad279, e279, hx279_0⟩ := Kd.at_int HR0_0.out (rd t275 x28_2) p279 q279
                                obtain rfl : ad273 = ad279 := (by injection e279)
                                replace hx279_0 := (HB.out.cell (World.block_lt_of_cell? w _ hx279_0)).trans hx279_0
                                replace p279 := eq_true p279
                                replace q279 := eq_true q279
                                go_wp2
                                go_ret
                                exact ⟨by first | rfl | (simp [errW_none, errW_some] <;> rfl) | (simp only [← hji13]; first | rfl | (simp [errW_none, errW_some] <;> rfl)) | (simp [*, errW_none, errW_some] <;> rfl), by repeat (first | (with_reducible first | exact HB.out | apply below_alloc | apply pw_below_drewN | apply below_drew1 | refine below_set ?_ GE270.out) | exact HB.out)⟩
                            · rw [if_neg c23] at H
                              exact absurd H (by simp)
                          · rw [if_neg c22] at H
                            exact absurd H (by simp)
                        · rw [if_neg c21] at H
                          exact absurd H (by simp)
                      · rw [if_neg c20] at H
                        exact absurd H (by simp)
                    · rw [if_neg c19] at H
                      have c19b0 : decide (x28_2 < (t275.length : Int)) = false := decide_eq_false c19
                      clear c19
                      have H' := Aside0.mk H
                      clear H
                      go_wp2
                      go_roundg k2
                      case measure => have := HK1.out; have := HK2.out; omega
                      case rel => exact ⟨(wrap64 (x14_1 + 1)), (by first | rfl | (simp; done) | (simp [*]; done)), H', ⟨by have := HK1.out; have := HK2.out; omega⟩, ⟨by (with_reducible repeat (first | refine blk_drewN ?_ _ | refine blk_drew ?_ | refine blk_alloc ?_ _)); exact BK270.out⟩, ⟨by repeat (first | (with_reducible first | exact HB.out | apply below_alloc | apply pw_below_drewN | apply below_drew1 | refine below_set ?_ GE270.out) | exact HB.out)⟩⟩
              · replace c15 := Bool.eq_false_iff.mpr c15
                subst c15
                have H1 : (some false) = some r := by rw [if_neg (show ¬ (false = true) by decide)] at H; exact H
                clear H
                have H := H1
                clear H1
                obtain rfl := Option.some.inj H
                have p273 : 0 ≤ (x14_1 : Int) := of_decide_eq_true (by first | (with_reducible assumption) | assumption)
                have q273 : x14_1 < (l0_0.length : Int) := of_decide_eq_true (by first | (with_reducible assumption) | assumption)
                obtain ⟨ad273, e273, hx273_0⟩ := Kd.at_int HR0_0.out x14_1 p273 q273
                cases e273
                replace hx273_0 := (HB.out.cell (World.block_lt_of_cell? w _ hx273_0)).trans hx273_0
                replace p273 := eq_true p273
                replace q273 := eq_true q273
                go_wp2_with (first | ((with_reducible refine gate_callee (f := 31) rfl ?_); refine goesL_ (some 23) rfl rfl Try.func31 (by kernel_rfl) rfl #[.int .i64 (rd l0_0 x14_1), .int .i64 0, .int .i64 (wrap64 ((ji13) - 1))] rfl (by (try simp only [List.map_toArray, List.map_cons, List.map_nil]); first | done | (simp only [hji13]; rfl) | rfl | (simp only [List.length_drop, List.length_take]; rfl)) ?_; (with_reducible refine (impl_within.calls (rd l0_0 x14_1) 0 (wrap64 ((ji13) - 1)) false _ A14.out).mono ?_); rintro e w' ⟨rfl, ⟨nd, rfl⟩⟩; refine ⟨_, rfl, ?_⟩))
                go_ret
                exact ⟨by first | rfl | (simp [errW_none, errW_some] <;> rfl) | (simp only [← hji13]; first | rfl | (simp [errW_none, errW_some] <;> rfl)) | (simp [*, errW_none, errW_some] <;> rfl), by repeat (first | (with_reducible first | exact HB.out | apply below_alloc | apply pw_below_drewN | apply below_drew1 | refine below_set ?_ GE270.out) | exact HB.out)⟩
            · rw [if_neg c11] at H
              exact absurd H (by simp)
          · rw [if_neg c10] at H
            exact absurd H (by simp)
        · rw [if_neg c9] at H
          have c9b0 : decide (x14_1 < (l0_0.length : Int)) = false := decide_eq_false c9
          clear c9
          obtain rfl := Option.some.inj H
          go_wp2
          go_ret
          exact ⟨by first | rfl | (simp [errW_none, errW_some] <;> rfl) | (simp [*, errW_none, errW_some] <;> rfl), by repeat (first | (with_reducible first | exact HB.out | apply below_alloc | apply pw_below_drewN | apply below_drew1 | refine below_set ?_ GE270.out) | exact HB.out)⟩
  · replace c4 := Bool.eq_false_iff.mpr c4
    subst c4
    have H1 : (some false) = some r := by rw [if_neg (show ¬ (false = true) by decide)] at H; exact H
    clear H
    have H := H1
    clear H1
    obtain rfl := Option.some.inj H
    go_enter Try.func30, Try.ntmps30
    go_wp2_with (first | ((with_reducible refine gate_dst (N := 1) rfl ?_); refine box_event ?hg (N := 1) ?hd (cs := #[.slice A0_0 l0_0.length c0_0]) (t := 29) ?hr ?_; (case hd => rfl); (case hg => rfl); (case hr => first | (go_simp; done) | (go_simp; rfl)); intro gb270 hg w27 hbox hb; have n0_ := Aside0.mk (below_step (by repeat (first | (with_reducible first | exact HB.out | apply below_alloc | apply pw_below_drewN | apply below_drew1) | exact HB.out)) hb); have n1_ := Aside0.mk (hbox); have n2_ := Aside0.mk ((by rw [hg]; exact (below_size (by repeat (first | (with_reducible first | exact HB.out | apply below_alloc | apply pw_below_drewN | apply below_drew1) | exact HB.out))) : w.heap.size ≤ gb270)); have n3_ := Aside0.mk ((by rw [hg]; exact (below_size (by repeat (first | (with_reducible first | exact HB.out | apply below_alloc | apply pw_below_drewN | apply below_drew1) | exact HB.out))) : w.heap.size ≤ gb270)); clear HB; have HB := n0_; have BK270 := n1_; have GW270 := n2_; have GE270 := n3_; clear n0_ n1_ n2_ n3_; clear hb hbox hg; have hcz28_0 : w27.cell? ⟨gb270, 0, none⟩ = some (.slice A0_0 l0_0.length c0_0) := (blk_cell BK270.out 0).trans rfl; have hfz28_0 := blk_frozen BK270.out 0) | ((with_reducible refine gate_callee (f := 32) rfl ?_); refine goesL_ (some 8) rfl rfl Try.func32 (by kernel_rfl) rfl #[.agg #[.slice A0_0 l0_0.length c0_0]] rfl (by (try simp only [List.map_toArray, List.map_cons, List.map_nil]); first | done | rfl | (simp only [List.length_drop, List.length_take]; rfl)) ?_; (with_reducible refine (impl_Poset_n.calls _ _ l0_0 t271 _ ?side1 ?side2 A2.out).mono ?_); (case side1 => repeat (first | exact (Kd.C_below HR0_0.out HB.out) | (with_reducible refine Kd.C_alloc ?_ _) | (with_reducible refine Kd.C_drewN ?_ _) | (with_reducible refine Kd.C_drew ?_))); (case side2 => exact HC0_0.out); rintro e w29 ⟨rfl, hb⟩; refine ⟨_, rfl, ?_⟩; have n0_ := Aside0.mk (blk_below (g := gb270) (o := .cells #[.slice A0_0 l0_0.length c0_0] 29 (0, 0)) (by (with_reducible repeat (first | refine blk_drewN ?_ _ | refine blk_drew ?_ | refine blk_alloc ?_ _)); exact BK270.out) hb); have n1_ := Aside0.mk (below_step (by repeat (first | (with_reducible first | exact HB.out | apply below_alloc | apply pw_below_drewN | apply below_drew1 | refine below_set ?_ GE270.out) | exact HB.out)) hb); clear BK270; clear HB; have BK270 := n0_; have HB := n1_; clear n0_ n1_; (try clear hb); (try clear hb2); (try clear hk); (try clear hi)) | ((with_reducible refine gate_callee (f := 31) rfl ?_); refine goesL_ (some 9) rfl rfl Try.func31 (by kernel_rfl) rfl #[.int .i64 t271, .int .i64 1, .int .i64 10] rfl (by (try simp only [List.map_toArray, List.map_cons, List.map_nil]); first | done | rfl | (simp only [List.length_drop, List.length_take]; rfl)) ?_; (with_reducible refine (impl_within.calls t271 1 10 false _ A3.out).mono ?_); rintro e w' ⟨rfl, ⟨nd, rfl⟩⟩; refine ⟨_, rfl, ?_⟩))
    go_ret
    exact ⟨by first | rfl | (simp [errW_none, errW_some] <;> rfl) | (simp [*, errW_none, errW_some] <;> rfl), by repeat (first | (with_reducible first | exact HB.out | apply below_alloc | apply pw_below_drewN | apply below_drew1 | refine below_set ?_ GE270.out) | exact HB.out)⟩
def slices_Clone_int_int.f (l0 : List Int) : Option (List Int) := if l0.length < 17592186044416 then some l0 else none
set_option maxHeartbeats 800000 in
set_option maxRecDepth 100000 in
theorem slices_Clone_int_int.calls (A0 : Option Addr) (c0 : Nat) (l0 : List Int) (r : List Int) (w : World) (hr0 : Kd.C (Kd.int .i64) w A0 l0.length l0) (hc0 : l0.length ≤ c0) (h : slices_Clone_int_int.f l0 = some r) :
    Calls Try.prog 56 #[.slice A0 l0.length c0] w fun e w' => ∃ v0_ : Value, e = .returned (v0_) ∧ Kd.R (Kd.int .i64) 3 w' w.heap.size (fun _ => True) v0_ r ∧ Below w.heap.size w w' := by
  unfold slices_Clone_int_int.f at h
  split at h
  · rename_i hl
    obtain rfl := Option.some.inj h
    clear h
    have HL := Aside0.mk hl
    have HR0 := Aside0.mk hr0
    clear hl hr0 hc0
    cases A0 with
    | none =>
      have hn : l0 = [] := by
        apply Classical.byContradiction; intro hne
        obtain ⟨_, e, _⟩ := HR0.out.2.2 (List.length_pos_iff.mpr hne)
        cases e
      subst hn
      have hs := Lib.run_eql_slice_nil (P := Try.prog) w 22 3 none 0 c0 0 0 Try.underlying22
      go_enter Try.func56, Try.ntmps56
      go_wp2
      go_ret
      exact ⟨_, rfl, Kd.R_nil _ _ _ _ _, Below.refl _ _⟩
    | some a =>
      have hs := Lib.run_eql_slice_nil (P := Try.prog) w 22 3 (some a) l0.length c0 0 0 Try.underlying22
      go_enter Try.func56, Try.ntmps56
      go_wp2_with (first | ((with_reducible refine gate_dst (N := 5) rfl ?_); refine Kd.R_lit (Kd.int .i64) _ 3 ?hg (N := 5) ?hd (xs := ([] : List Int)) (inner := []) (ok := fun _ => True) (okp := fun _ => True) ?hr ?hp (fun _ hk => hk) trivial (Below.refl _ _) (Nat.le_refl _) (by simp) ?_; (case hd => rfl); (case hg => rfl); (case hr => first | (go_simp; done) | (go_simp; rfl)); (case hp => exact (Reps.none _ _)); intro v109 w3 ho4 hb hg_ hnew_; clear hg_ hnew_; have HB := Aside0.mk hb; have HO := Aside0.mk ho4; clear hb ho4) | ((with_reducible refine gate_builtin (b := .append) (xs := #[.tmp 5, .tmp 6]) rfl ?_); at_builtin; refine Kd.R_append_rows (Kd.int .i64) (w0 := w) w.heap.size rfl (.tmp 5) (.tmp 6) 22 3 (.int .i64 0) 8 rfl Try.underlying22 info3 rfl (by decide) (by omega) v109 [] l0 _ _ _ (fun _ => True) (fun _ => False) rfl rfl ?aO ?aR (fun _ _ h => h) (fun _ h => h.elim) ?aF ?aB ?aS ?aL ?_; (case aR => exact (Kd.C_below HR0.out HB.out)); (case aB => exact HB.out); (case aF => exact (fun _ _ => trivial)); (case aO => exact HO.out); (case aS => exact HB.out.size); (case aL => have := HL.out; simp; omega); intro v112 w5 ho hb hg hat; have HB2 := Aside0.mk hb; have HO2 := Aside0.mk ho; clear ho hb hg hat))
      go_ret
      exact ⟨_, rfl, by simpa using HO2.out, HB2.out⟩
  · exact absurd h (by simp)
def impl_Poset_all.f (l0_0 : List Int) : Option (Int) := (impl_Poset_n.f l0_0).bind fun t281 => (if 0 ≤ t281 then (some (wrap64 ((shl .i64 1 t281) - 1))) else (none))
set_option maxHeartbeats 8000000 in
set_option maxRecDepth 100000 in
theorem impl_Poset_all.calls (A0_0 : Option Addr) (c0_0 : Nat) (l0_0 : List Int) (r : Int) (w : World) (hr0_0 : Kd.C (Kd.int .i64) w A0_0 l0_0.length l0_0) (hc0_0 : l0_0.length ≤ c0_0) (h : impl_Poset_all.f l0_0 = some r) :
    Calls Try.prog 73 #[.agg #[.slice A0_0 l0_0.length c0_0]] w fun e w' => e = .returned (.int .i64 r) ∧ Below w.heap.size w w' := by
  have hu29 := Try.underlying29
  have HR0_0 := Aside0.mk hr0_0
  have HC0_0 := Aside0.mk hc0_0
  clear hr0_0 hc0_0
  have HB := Aside0.mk (Below.refl w.heap.size w)
  have H : ((impl_Poset_n.f l0_0).bind fun t281 => (if 0 ≤ t281 then (some (wrap64 ((shl .i64 1 t281) - 1))) else (none))) = some r := h
  clear h
  replace H := Option.bind_eq_some_iff.mp H
  obtain ⟨t281, A20, H⟩ := H
  replace H : (if 0 ≤ t281 then (some (wrap64 ((shl .i64 1 t281) - 1))) else (none)) = some r := H
  have A2 := Aside0.mk A20
  clear A20
  by_cases c3 : 0 ≤ t281
  · rw [if_pos c3] at H
    have c3b0 := eq_true c3
    have c3b1 : decide (0 ≤ t281) = true := decide_eq_true c3
    clear c3
    obtain ⟨ji4, hji4⟩ : ∃ j_ : Int, (shl .i64 1 t281) = j_ := ⟨_, rfl⟩
    replace H : (some (wrap64 ((ji4) - 1))) = some r := by first | (rw [hji4] at H; exact H) | (simp only [hji4] at H ⊢; exact H)
    (try rw [hji4] at A2)
    have hji4_ : (IntKind.i64.wrap (1 * 2 ^ min t281.toNat 64)) = ji4 := hji4
    have hji4z : t281 ≤ 64 → (IntKind.i64.wrap (1 * 2 ^ t281.toNat)) = ji4 := shl_small hji4
    have hji4u : (IntKind.i64.wrap (2 ^ min t281.toNat 64)) = ji4 := by have h_ := hji4_; rw [Int.one_mul] at h_; exact h_
    have hji4v : t281 ≤ 64 → (IntKind.i64.wrap (2 ^ t281.toNat)) = ji4 := fun hle_ => by have h_ := hji4z hle_; rw [Int.one_mul] at h_; exact h_
    have hji4y : (wrap64 (1 * 2 ^ min t281.toNat 64)) = ji4 := (i64_w _).symm.trans hji4_
    have hji4x : t281 ≤ 64 → (wrap64 (1 * 2 ^ t281.toNat)) = ji4 := fun h_ => (i64_w _).symm.trans (hji4z h_)
    obtain rfl := Option.some.inj H
    go_enter Try.func73, Try.ntmps73
    go_wp2_with (first | ((with_reducible refine gate_dst (N := 1) rfl ?_); refine box_event ?hg (N := 1) ?hd (cs := #[.slice A0_0 l0_0.length c0_0]) (t := 29) ?hr ?_; (case hd => rfl); (case hg => rfl); (case hr => first | (go_simp; done) | (go_simp; rfl)); intro gb280 hg w5 hbox hb; have n0_ := Aside0.mk (below_step (by repeat (first | (with_reducible first | exact HB.out | apply below_alloc | apply pw_below_drewN | apply below_drew1) | exact HB.out)) hb); have n1_ := Aside0.mk (hbox); have n2_ := Aside0.mk ((by rw [hg]; exact (below_size (by repeat (first | (with_reducible first | exact HB.out | apply below_alloc | apply pw_below_drewN | apply below_drew1) | exact HB.out))) : w.heap.size ≤ gb280)); have n3_ := Aside0.mk ((by rw [hg]; exact (below_size (by repeat (first | (with_reducible first | exact HB.out | apply below_alloc | apply pw_below_drewN | apply below_drew1) | exact HB.out))) : w.heap.size ≤ gb280)); clear HB; have HB := n0_; have BK280 := n1_; have GW280 := n2_; have GE280 := n3_; clear n0_ n1_ n2_ n3_; clear hb hbox hg; have hcz6_0 : w5.cell? ⟨gb280, 0, none⟩ = some (.slice A0_0 l0_0.length c0_0) := (blk_cell BK280.out 0).trans rfl; have hfz6_0 := blk_frozen BK280.out 0) | ((with_reducible refine gate_callee (f := 32) rfl ?_); refine goesL_ (some 4) rfl rfl Try.func32 (by kernel_rfl) rfl #[.agg #[.slice A0_0 l0_0.length c0_0]] rfl (by (try simp only [List.map_toArray, List.map_cons, List.map_nil]); first | done | rfl | (simp only [List.length_drop, List.length_take]; rfl)) ?_; (with_reducible refine (impl_Poset_n.calls _ _ l0_0 t281 _ ?side1 ?side2 A2.out).mono ?_); (case side1 => repeat (first | exact (Kd.C_below HR0_0.out HB.out) | (with_reducible refine Kd.C_alloc ?_ _) | (with_reducible refine Kd.C_drewN ?_ _) | (with_reducible refine Kd.C_drew ?_))); (case side2 => exact HC0_0.out); rintro e w7 ⟨rfl, hb⟩; refine ⟨_, rfl, ?_⟩; have n0_ := Aside0.mk (blk_below (g := gb280) (o := .cells #[.slice A0_0 l0_0.length c0_0] 29 (0, 0)) (by (with_reducible repeat (first | refine blk_drewN ?_ _ | refine blk_drew ?_ | refine blk_alloc ?_ _)); exact BK280.out) hb); have n1_ := Aside0.mk (below_step (by repeat (first | (with_reducible first | exact HB.out | apply below_alloc | apply pw_below_drewN | apply below_drew1 | refine below_set ?_ GE280.out) | exact HB.out)) hb); clear BK280; clear HB; have BK280 := n0_; have HB := n1_; clear n0_ n1_; (try clear hb); (try clear hb2); (try clear hk); (try clear hi)))
    go_ret
    exact ⟨by first | rfl | (simp [errW_none, errW_some] <;> rfl) | (simp only [← hji4]; first | rfl | (simp [errW_none, errW_some] <;> rfl)) | (simp [*, errW_none, errW_some] <;> rfl), by repeat (first | (with_reducible first | exact HB.out | apply below_alloc | apply pw_below_drewN | apply below_drew1 | refine below_set ?_ GE280.out) | exact HB.out)⟩
  · rw [if_neg c3] at H
    exact absurd H (by simp)
end Go.Proofs.Ytldbabadbggleaa.L
end
