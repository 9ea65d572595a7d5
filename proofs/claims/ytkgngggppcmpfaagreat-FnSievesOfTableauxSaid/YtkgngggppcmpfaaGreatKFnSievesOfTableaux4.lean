/- Laws about the given program: the law FnSievesOfTableaux answers true for every input that its row lets in; no condition is added to the given statement. Contracts of the Go functions that it reaches, and the plain proof over lists. -/
import Derived.Test.YtkgngggppcmpfaaGreatWFnSievesOfTableaux0
import Derived.Test.YtkgngggppcmpfaaGreatKFnSievesOfTableaux0
import Derived.Test.YtkgngggppcmpfaaGreatKFnSievesOfTableaux1
import Derived.Test.YtkgngggppcmpfaaGreatKFnSievesOfTableaux2
import Derived.Test.YtkgngggppcmpfaaGreatKFnSievesOfTableaux3
section
namespace Go.Proofs.YtkgngggppcmpfaaGreat.L
open Go.RowKit Go.Proofs.YtkgngggppcmpfaaGreatW.PrintWords Go.Proofs.YtkgngggppcmpfaaGreatW.PrintLast Go.Proofs.YtkgngggppcmpfaaGreatW.PrintMore Go.Proofs.YtkgngggppcmpfaaGreat.X
attribute [local go_sem] Qy Q0 Qbb Qbc Qp Qq Qz Q1
set_option linter.unusedVariables false
set_option linter.unusedSimpArgs false
def Qd0.f (l0:List Int):Option (Int × Int):=(Qc9.f l0 0 0).bind fun bt307=>(some (bt307.1,bt307.2.1))
set_option maxHeartbeats 8000000 in
set_option maxRecDepth 100000 in
theorem Qd0.calls (A0:Option Addr) (c0:Nat) (l0:List Int) (r1:Int) (r2:Int) (w:World) (hr0:Kd.C (Kd.int .u8) w A0 l0.length l0) (hc0:l0.length≤c0) (h:Qd0.f l0=some (r1,r2)):
 Calls Tryz.prog 202 #[.slice A0 l0.length c0] w fun e w'=>e= .returned (.tuple #[.int .i64 r1, .int .i64 r2])∧Below w.heap.size w w':=by
 have hu94:=Tryz.underlying94;have HR0:=Zk hr0;have HC0:=Zk hc0;clear hr0 hc0;have HB:=Zk (Below.refl w.heap.size w);have H:((Qc9.f l0 0 0).bind fun bt307=>(some (bt307.1,bt307.2.1)))=some (r1,r2):=h;clear h;obtain ⟨⟨t307,t308,t309,t310⟩,A2,H⟩:=bs H;(try dsimp only at H)
 simp only [Option.some.injEq,Prod.mk.injEq] at H;obtain ⟨rfl,rfl⟩:=H;go_enter Tryz.func202,Tryz.ntmps202;go_wp2_with (first|((with_reducible refine Qu (N:=7) rfl ?_);refine Qfh ?hg (N:=7) ?hd (cs:= #[.slice A0 l0.length c0, .int .i64 0, .int .u64 0]) (t:=94) ?hr ?_;(case hd=>rfl);(case hg=>rfl);(case hr=>first|(go_simp;done)|(go_simp;rfl));intro gb306 hg w3 hbox hb;have HI306:=Zk ((⟨_,_,hbox,(by rw [hg];exact (Qh (by repeat (first|(with_reducible first|exact HB.out|apply Qj|apply Qk|apply Q2)|exact HB.out))):w.heap.size≤gb306),HR0.out⟩:Qa w _ gb306 l0 0 0));have GW306:=Zk ((by rw [hg];exact (Qh (by repeat (first|(with_reducible first|exact HB.out|apply Qj|apply Qk|apply Q2)|exact HB.out))):w.heap.size≤gb306));have GE306:=GW306;replace HB:=Zk (Qb (by repeat (first|(with_reducible first|exact HB.out|apply Qj|apply Qk|apply Q2)|exact HB.out)) hb);clear hb hbox hg)|((with_reducible refine Qc5 (f:=213) rfl ?_);refine Qd3 (some 9) rfl rfl Tryz.func213 (by kernel_rfl) rfl #[.pointer (some ⟨gb306,0,none⟩)] rfl (by (try simp only [List.map_toArray,List.map_cons,List.map_nil]);first|done|rfl|(simp only [List.length_drop,List.length_take];rfl)) ?_;(with_reducible refine (Qc9.calls gb306 l0 0 0 t307 t308 t309 t310 w _ ?side1 ?side2 A2.out).mono ?_);(case side1=>repeat (first|(with_reducible first|exact HI306.out|apply Qa.alloc|apply Qa.drewN|apply Qa.drew|apply Qa.set_1|apply Qa.set_2)|exact HI306.out));(case side2=>repeat (first|(with_reducible first|exact HB.out|apply Qj|apply Qk|apply Q2|refine Qbt ?_ (Qa.ge HI306.out))|exact HB.out));rintro e w4 ⟨rfl,hi,hb,hk⟩;refine ⟨_,rfl,?_⟩;replace HB:=Zk (hb);replace HI306:=Zk (hi);(try clear hb);(try clear hb2);(try clear hk);(try clear hi)))
 go_ret2
 exact ⟨by first|rfl|(simp [Qe,Qf] <;>rfl)|(simp [*,Qe,Qf] <;>rfl),(Qa.vB HB)⟩
def Qdi.f (l0:List Int):Option (Int × Int):=(Qd0.f l0).bind fun bt311=>(some (bt311.1,bt311.2))
set_option maxHeartbeats 8000000 in
set_option maxRecDepth 100000 in
theorem Qdi.calls (A0:Option Addr) (c0:Nat) (l0:List Int) (r1:Int) (r2:Int) (w:World) (hr0:Kd.C (Kd.int .u8) w A0 l0.length l0) (hc0:l0.length≤c0) (h:Qdi.f l0=some (r1,r2)):
 Calls Tryz.prog 134 #[.slice A0 l0.length c0] w fun e w'=>e= .returned (.tuple #[.int .i64 r1, .int .i64 r2])∧Below w.heap.size w w':=by
 have HR0:=Zk hr0;have HC0:=Zk hc0;clear hr0 hc0;have HB:=Zk (Below.refl w.heap.size w);have H:((Qd0.f l0).bind fun bt311=>(some (bt311.1,bt311.2)))=some (r1,r2):=h;clear h;obtain ⟨⟨t311,t312⟩,A2,H⟩:=bs H;(try dsimp only at H)
 simp only [Option.some.injEq,Prod.mk.injEq] at H;obtain ⟨rfl,rfl⟩:=H;go_enter Tryz.func134,Tryz.ntmps134;go_wp2_with (first|(refine gA (some 5) Tryz.func202 #[.slice A0 l0.length c0] ?_;(with_reducible refine (Qd0.calls _ _ l0 t311 t312 _ (uC HR0) HC0.out A2.out).mono ?_);rintro e w3 ⟨rfl,hb⟩;refine ⟨_,rfl,?_⟩;replace HB:=Zk (Qb (uB HB) hb);(try clear hb)))
 go_ret2
 exact ⟨by first|rfl|(simp [Qe,Qf] <;>rfl)|(simp [*,Qe,Qf] <;>rfl),uB HB⟩
end Go.Proofs.YtkgngggppcmpfaaGreat.L
end
section
namespace Go.Proofs.YtkgngggppcmpfaaGreat.L
open Go.RowKit Go.Proofs.YtkgngggppcmpfaaGreatW.PrintWords Go.Proofs.YtkgngggppcmpfaaGreatW.PrintLast Go.Proofs.YtkgngggppcmpfaaGreatW.PrintMore
attribute [local go_sem] Qy Q0 Qbb Qbc Qp Qq Qz Q1
set_option linter.unusedVariables false
set_option linter.unusedSimpArgs false
def Qds.ren:Go.Shelf.Ren:=⟨fun|5=>296|8=>338|7=>337|19=>361|20=>362|10=>352|11=>353|12=>354|13=>355|14=>356|15=>357|16=>358|17=>359|18=>360|30=>364|31=>365|32=>366|33=>367|34=>368|35=>369|40=>370|n=>n,fun|23=>24|25=>3|3=>3|32=>149|22=>24|0=>0|44=>163|46=>92|4=>4|36=>172|35=>171|41=>29|5=>5|9=>9|53=>176|57=>180|63=>182|64=>49|n=>n,fun|n=>n⟩
theorem Qds.lays:Go.Proofs.SlLaysM.n5 Tryz.prog Qds.ren where
 mixed:=by kernel_rfl
 f5 := ⟨ "slices.Sort[[]int,int]", by decide, Tryz.func296.trans (congrArg some (by kernel_rfl))⟩
 f7 := ⟨ "slices.pdqsortOrdered[int]", by decide, Tryz.func337.trans (congrArg some (by kernel_rfl))⟩
 f8:=Tryz.func338.trans (congrArg some (by kernel_rfl))
 f10 := ⟨ "slices.insertionSortOrdered[int]", by decide, Tryz.func352.trans (congrArg some (by kernel_rfl))⟩
 f11 := ⟨ "slices.heapSortOrdered[int]", by decide, Tryz.func353.trans (congrArg some (by kernel_rfl))⟩
 f12 := ⟨ "slices.breakPatternsOrdered[int]", by decide, Tryz.func354.trans (congrArg some (by kernel_rfl))⟩
 f13 := ⟨ "slices.choosePivotOrdered[int]", by decide, Tryz.func355.trans (congrArg some (by kernel_rfl))⟩
 f14 := ⟨ "slices.reverseRangeOrdered[int]", by decide, Tryz.func356.trans (congrArg some (by kernel_rfl))⟩
 f15 := ⟨ "slices.partialInsertionSortOrdered[int]", by decide, Tryz.func357.trans (congrArg some (by kernel_rfl))⟩
 f16 := ⟨ "cmp.Less[int]", by decide, Tryz.func358.trans (congrArg some (by kernel_rfl))⟩
 f17 := ⟨ "slices.partitionEqualOrdered[int]", by decide, Tryz.func359.trans (congrArg some (by kernel_rfl))⟩
 f18 := ⟨ "slices.partitionOrdered[int]", by decide, Tryz.func360.trans (congrArg some (by kernel_rfl))⟩
 f19:=Tryz.func361.trans (congrArg some (by kernel_rfl))
 f20:=Tryz.func362.trans (congrArg some (by kernel_rfl))
 f30 := ⟨ "slices.siftDownOrdered[int]", by decide, Tryz.func364.trans (congrArg some (by kernel_rfl))⟩
 f31:=Tryz.func365.trans (congrArg some (by kernel_rfl))
 f32:=Tryz.func366.trans (congrArg some (by kernel_rfl))
 f33 := ⟨ "slices.medianAdjacentOrdered[int]", by decide, Tryz.func367.trans (congrArg some (by kernel_rfl))⟩
 f34 := ⟨ "slices.medianOrdered[int]", by decide, Tryz.func368.trans (congrArg some (by kernel_rfl))⟩
 f35 := ⟨ "cmp.isNaN[int]", by decide, Tryz.func369.trans (congrArg some (by kernel_rfl))⟩
 f40 := ⟨ "slices.order2Ordered[int]", by decide, Tryz.func370.trans (congrArg some (by kernel_rfl))⟩
 t0:=Tryz.underlying0
 a0:=Tryz.isAgg0
 z0:=Tryz.sizeOf0
 v0:=Tryz.zeroValue0
 t3:=Tryz.underlying3
 a3:=Tryz.isAgg3
 z3:=Tryz.sizeOf3
 v3:=Tryz.zeroValue3
 t4:=Tryz.underlying4
 a4:=Tryz.isAgg4
 z4:=Tryz.sizeOf4
 v4:=Tryz.zeroValue4
 t5:=Tryz.underlying5
 a5:=Tryz.isAgg5
 z5:=Tryz.sizeOf5
 v5:=Tryz.zeroValue5
 t9:=Tryz.underlying9
 a9:=Tryz.isAgg9
 z9:=Tryz.sizeOf9
 v9:=Tryz.zeroValue9
 t22:=Tryz.underlying24
 a22:=Tryz.isAgg24
 z22:=Tryz.sizeOf24
 v22:=Tryz.zeroValue24
 t23:=Tryz.underlying24
 a23:=Tryz.isAgg24
 z23:=Tryz.sizeOf24
 v23:=Tryz.zeroValue24
 t25:=Tryz.underlying3
 a25:=Tryz.isAgg3
 z25:=Tryz.sizeOf3
 v25:=Tryz.zeroValue3
 t32:=Tryz.underlying149
 a32:=Tryz.isAgg149
 z32:=Tryz.sizeOf149
 v32:=Tryz.zeroValue149
 t35:=Tryz.underlying171
 a35:=Tryz.isAgg171
 z35:=Tryz.sizeOf171
 v35:=Tryz.zeroValue171
 t36:=Tryz.underlying172
 a36:=Tryz.isAgg172
 z36:=Tryz.sizeOf172
 v36:=Tryz.zeroValue172
 t41:=Tryz.underlying29
 a41:=Tryz.isAgg29
 z41:=Tryz.sizeOf29
 v41:=Tryz.zeroValue29
 t44:=Tryz.underlying163
 a44:=Tryz.isAgg163
 z44:=Tryz.sizeOf163
 v44:=Tryz.zeroValue163
 t46:=Tryz.underlying92
 a46:=Tryz.isAgg92
 z46:=Tryz.sizeOf92
 v46:=Tryz.zeroValue92
 t53:=Tryz.underlying176
 a53:=Tryz.isAgg176
 z53:=Tryz.sizeOf176
 v53:=Tryz.zeroValue176
 t57:=Tryz.underlying180
 a57:=Tryz.isAgg180
 z57:=Tryz.sizeOf180
 v57:=Tryz.zeroValue180
 t63:=Tryz.underlying182
 a63:=Tryz.isAgg182
 z63:=Tryz.sizeOf182
 v63:=Tryz.zeroValue182
 t64:=Tryz.underlying49
 a64:=Tryz.isAgg49
 z64:=Tryz.sizeOf49
 v64:=Tryz.zeroValue49
theorem Qds.heap {w:World} {g e:Nat} {cur:Array Value} (h:w.heap[g]? =some (.cells cur e (0,0))) (f:Array Value→Array Value):(Go.Sort.mapBlock w g f).heap[g]? =some (.cells (f cur) e (0,0)):=by
 unfold Go.Sort.mapBlock;show (w.heap.modify g (Go.Sort.onCells f))[g]? =_
 rw [Array.getElem?_modify,if_pos rfl,h];rfl
theorem Qds.far {w:World} {g k:Nat} (hk:k≠g) (f:Array Value→Array Value):(Go.Sort.mapBlock w g f).heap[k]? =w.heap[k]? :=by
 unfold Go.Sort.mapBlock;show (w.heap.modify g (Go.Sort.onCells f))[k]? =_
 rw [Array.getElem?_modify,if_neg (fun e=>hk e.symm)]
theorem Qds.hold {g n c base e:Nat} {ok:Nat→Prop} {w:World} {xs:List Int} (h:(Kd.int .i64).R e w base ok (.slice (some ⟨g,0,none⟩) n c) xs):Go.Sort.Holds (Value.int .i64) w g 0 xs.toArray:=by
 obtain ⟨hn,_,_⟩:=Kd.R_reads' h;subst hn;intro j hj;have hj':j<xs.length:=by simpa using hj
 obtain ⟨h1,h2⟩:=Kd.R_celln (0:Int) h (j:Int) (by omega) (by omega);rw [Int.toNat_natCast] at h1 h2;rw [Nat.zero_add];refine ⟨?_,h2⟩;rw [h1];simp [rdOf,List.getD_eq_getElem?_getD,hj']
theorem Qds.put {g n c base e:Nat} {ok:Nat→Prop} {w:World} {xs zs:List Int} (h:(Kd.int .i64).R e w base ok (.slice (some ⟨g,0,none⟩) n c) xs) (hz:zs.length=xs.length):
 (Kd.int .i64).R e (Go.Sort.putRow (Value.int .i64) w g 0 zs.toArray) base ok (.slice (some ⟨g,0,none⟩) n c) zs:=by
 obtain ⟨hn,_,_⟩:=Kd.R_reads' h;subst hn;have ho:=Kd.own_of_R h;obtain ⟨hl,hor⟩:=ho;rcases hor with ⟨e1,_⟩|⟨g',cap,cur,e1,hb,hh,hnc,hcm,hcs,ht⟩
 ·
  cases e1
 ·
  injection e1 with e2 e3 e4
  injection e2 with e2
  injection e2 with e2
  subst e2 e4;have hown:(Go.Sort.putRow (Value.int .i64) w g 0 zs.toArray).ownsRow base e 1 (.slice (some ⟨g,0,none⟩) xs.length c) zs.length (encs (Value.int .i64) zs):=by
   rw [hz];refine ⟨by rw [Qfo];omega, .inr ⟨g,c,Go.Sort.putCells (Value.int .i64) 0 zs.toArray cur,rfl,hb,Qds.heap hh _,hnc,hcm,?_,?_⟩⟩
   ·
    unfold Go.Sort.putCells;rw [Array.size_mapIdx];exact hcs
   ·
    refine List.ext_getElem? fun j=> ?_
    rw [List.getElem?_take]
    by_cases hj:j<xs.length*1
    ·
     rw [if_pos hj];have hjc:j<cur.size:=by omega
     have hjz:j<zs.length:=by omega
     unfold Go.Sort.putCells encs;rw [Array.getElem?_toList,Array.getElem?_mapIdx,Array.getElem?_eq_getElem hjc,List.getElem?_map,List.getElem?_eq_getElem hjz];simp [hjz]
    ·
     rw [if_neg hj,List.getElem?_eq_none (by rw [Qfo];omega)]
  rw [hz] at hown;rw [←hz] at hown ⊢;exact Kd.R_of_own hown h.1
theorem Qds.grown {d:Kd Int} {base e:Nat} {ok:Nat→Prop} {v:Value} {w:World} {xs:List Int} (h:d.R e w base ok v xs) (os:Array Obj):d.R e (Go.Sort.grow w os) base ok v xs:=by
 refine Kd.R_step h fun k _ hk=> ?_
 unfold Go.Sort.grow;show (w.heap++os)[k]? =_
 rw [Array.getElem?_append_left hk]
theorem Qds.below {B g n:Nat} {w0 w:World} (h:Below B w0 w) (hg:B≤g) (hB:B≤w.heap.size) (d:Array Int) (os:Array Obj):Below B w0 (Go.Sort.grow (Go.Sort.putRow (Value.int .i64) (Go.Sort.ahead w n) g 0 d) os):=by
 refine ⟨h.os,h.tape,h.output,?_,fun k hk=> ?_⟩
 ·
  refine Nat.le_trans h.size ?_;show _≤((w.heap.modify g _)++os).size
  rw [Array.size_append,Array.size_modify];omega
 ·
  rw [←h.block k hk];show ((w.heap.modify g (Go.Sort.onCells _))++os)[k]? =_
  rw [Array.getElem?_append_left (by rw [Array.size_modify];omega),Array.getElem?_modify,if_neg (by omega)]
def Qdj.sort (l:List Int):List Int:=l.mergeSort fun x y=>decide (x≤y)
set_option maxHeartbeats 800000 in
set_option maxRecDepth 100000 in
theorem Qds.calls (v:Value) (l:List Int) (w0 w:World) (hb:Below w0.heap.size w0 w) (hr:Kd.R (Kd.int .i64) 3 w w0.heap.size (fun _=>True) v l) (hl:l.length≤17592186044416):
 Calls Tryz.prog 296 #[v] w fun e w'=>e= .returned (.tuple #[])∧Kd.R (Kd.int .i64) 3 w' w0.heap.size (fun _=>True) v (Qdj.sort l)∧Below w0.heap.size w0 w':=by
 cases l with
 |nil=>
  obtain ⟨A,c,rfl,_,_⟩:=Kd.R_reads hr;refine (Go.Proofs.AnyM.slices_Sort_int_none Qds.lays A c w).mono ?_;rintro e w' ⟨rfl,rfl⟩;have e1:Qdj.sort [] = [] :=by unfold Qdj.sort;simp
  rw [e1];exact ⟨rfl,hr,hb⟩
 |cons x l=>
  obtain ⟨g,c,rfl,gb,gl,cl,hg⟩:=Kd.R_form hr (by simp);refine (Go.Proofs.AnyM.slices_Sort_int Qds.lays g 0 c (x::l) w (Qds.hold hr) gl (by omega)).mono ?_;rintro e w' ⟨rfl,n,os,rfl⟩;have h1:Kd.R (Kd.int .i64) 3 (Go.Sort.ahead w n) w0.heap.size (fun _=>True) (.slice (some ⟨g,0,none⟩) (x::l).length c) (x::l):=Kd.R_step hr fun _ _ _=>rfl
  exact ⟨rfl,Qds.grown (Qds.put h1 (by rw [List.length_mergeSort])) os,Qds.below hb gb hb.size _ os⟩
def Qdj.f (l0:List Int):Option (List Int):=if l0.length<17592186044416 then some (Qdj.sort l0) else none
set_option maxHeartbeats 800000 in
set_option maxRecDepth 100000 in
theorem Qdj.calls (A0:Option Addr) (c0:Nat) (l0:List Int) (r:List Int) (w:World) (hr0:Kd.C (Kd.int .i64) w A0 l0.length l0) (hc0:l0.length≤c0) (h:Qdj.f l0=some r):
 Calls Tryz.prog 189 #[.slice A0 l0.length c0] w fun e w'=> ∃ v0_:Value,e= .returned (v0_)∧Kd.R (Kd.int .i64) 3 w' w.heap.size (fun _=>True) v0_ r∧Below w.heap.size w w':=by
 unfold Qdj.f at h
 split at h
 ·
  rename_i hl;obtain rfl:=Option.some.inj h;have HL:=Zk hl;have HR:=Zk hr0;have HC:=Zk hc0;have HF:=Zk (show Qdy.f l0=some l0 from if_pos hl);clear h hl hr0 hc0;go_enter Tryz.func189,Tryz.ntmps189;go_wp2_with fail;refine (Qdy.calls A0 c0 l0 l0 _ HR.out HC.out HF.out).mono ?_;rintro e w1 ⟨v1,rfl,hR,hb⟩;have R1:=Zk hR;have B1:=Zk hb;clear hR hb;go_wp2_with fail;refine (Qds.calls v1 l0 w _ B1.out R1.out (by have:=HL.out;omega)).mono ?_;rintro e w2 ⟨rfl,hR,hb⟩;have R2:=Zk hR;have B2:=Zk hb;clear hR hb;go_wp2
  go_ret
  exact ⟨_,rfl,R2.out,B2.out⟩
 ·
  cases h
end Go.Proofs.YtkgngggppcmpfaaGreat.L
end
section
namespace Go.Proofs.YtkgngggppcmpfaaGreat.L
open Go.RowKit Go.Proofs.YtkgngggppcmpfaaGreatW.PrintWords Go.Proofs.YtkgngggppcmpfaaGreatW.PrintLast Go.Proofs.YtkgngggppcmpfaaGreatW.PrintMore Go.Proofs.YtkgngggppcmpfaaGreat.X
attribute [local go_sem] Qy Q0 Qbb Qbc Qp Qq Qz Q1
set_option linter.unusedVariables false
set_option linter.unusedSimpArgs false
def Qbx.l0:Nat→Int→List Int→List Int→Int→Int→Option (List Int)
 |0,_,_,_,_,_=>none
 |k+1,x1,x5,x9,x10,x11=>if x11<x10 then (if 0≤x11 then (if x11<(x9.length:Int) then (if (rd x9 x11)=0 then (none) else (if x5.length<17592186044416 then (Qbx.l0 k x1 (x5++ [wrap64 (Int.tdiv x1 (rd x9 x11))]) x9 x10 (wrap64 (x11+1))) else (none))) else (none)) else (none)) else ((Qdj.f x5).bind fun t439=>(some t439))
def Qbx.f (k:Nat) (l0:List Int) (a1:Int):Option (List Int):=Qbx.l0 k a1 (([] :List Int)) l0 (l0.length:Int) 0
theorem Qbx.mono_l: ∀ k,(∀ y0 y1 y2 y3 y4,LeO (Qbx.l0 k y0 y1 y2 y3 y4) (Qbx.l0 (k+1) y0 y1 y2 y3 y4))
 |0=>fun _ _ _ _ _ r h=>by simp [Qbx.l0] at h
 |k+1=>by
  have ih0:=Qbx.mono_l k
  ·
   intro y0 y1 y2 y3 y4;unfold Qbx.l0
   repeat' first
   |(with_reducible exact ih0 _ _ _ _ _)
   |(with_reducible exact LeO.refl _)
   |(with_reducible exact LeO.none _)
   |(with_reducible refine LeO.ite ?_ ?_)
   |(with_reducible refine LeO.bind ?_ (fun _=> ?_))
   |exact ih0 _ _ _ _ _
   |exact LeO.none _
   |refine LeO.ite ?_ ?_
   |refine LeO.bind ?_ (fun _=> ?_)
theorem Qbx.mono: ∀ a0 a1 k,LeO (Qbx.f k a0 a1) (Qbx.f (k+1) a0 a1):=by
 intro a0 a1 k;have ih0:=Qbx.mono_l k;unfold Qbx.f
 repeat' (with_reducible first|apply ih0|exact LeO.refl _|exact LeO.none _|refine LeO.ite ?_ ?_|refine LeO.bind ?_ (fun _=> ?_))
set_option maxHeartbeats 8000000 in
set_option maxRecDepth 100000 in
theorem Qbx.calls (k:Nat) (A0:Option Addr) (c0:Nat) (l0:List Int) (a1:Int) (r:List Int) (w:World) (hr0:Kd.C (Kd.int .i64) w A0 l0.length l0) (hc0:l0.length≤c0) (h:Qbx.f k l0 a1=some r):
 Calls Tryz.prog 207 #[.slice A0 l0.length c0, .int .i64 a1] w fun e w'=> ∃ v0_:Value,e= .returned (v0_)∧Kd.R (Kd.int .i64) 3 w' w.heap.size (fun _=>True) v0_ r∧Below w.heap.size w w':=by
 have HR0:=Zk hr0;have HC0:=Zk hc0;clear hr0 hc0;have HB:=Zk (Below.refl w.heap.size w);have H:(Qbx.l0 k a1 (([] :List Int)) l0 (l0.length:Int) 0)=some r:=h;clear h;obtain ⟨y432,hy432⟩: ∃ y_:List Int,y_=(([] :List Int)):=⟨_,rfl⟩
 replace H:(Qbx.l0 k a1 y432 l0 (l0.length:Int) 0)=some r:=by first|(rw [hy432];with_reducible exact H)|(have H2_:=(Option.bind_some _ _).symm.trans H;rw [hy432];with_reducible exact H2_)|(have H2_:=(Option.bind_some _ _).symm.trans H;with_reducible exact H2_)|with_reducible exact H|(rw [hy432];exact H)|exact H
 have Ny432:=Zk hy432;clear hy432;have H':=Zk H;clear H;go_enter Tryz.func207,Tryz.ntmps207;go_wp2_with (first|((with_reducible refine Qu (N:=8) rfl ?_);refine Kd.R_lit (Kd.int .i64) _ 3 ?hg (N:=8) ?hd (xs:=([] :List Int)) (inner:= []) (ok:=fun _=>True) (okp:=fun _=>True) ?hr ?hp (fun _ hk=>hk) trivial (Below.refl _ _) (Nat.le_refl _) (by simp) ?_;(case hd=>rfl);(case hg=>rfl);(case hr=>first|(go_simp;done)|(go_simp;rfl));(case hp=>exact (Reps.none _ _));intro v433 w3 ho4 hb hg_ hnew_;clear hg_ hnew_;(first|rw [←Ny432.out] at ho4|(simp only [Int.reduceToNat] at ho4;rw [←Ny432.out] at ho4));have HO434:=Zk (Kd.R_lower ho4 (Qh (uB HB)));replace HB:=Zk (Qb (uB HB) hb);clear hb ho4))
 go_loopg [5,11] k (fun kq v5 v11 w'=> ∃ (x5_1:List Int) (x11_1:Int),v11= .int .i64 x11_1∧Z0 (Qbx.l0 kq a1 x5_1 l0 (l0.length:Int) x11_1=some r)∧Z0 (kq≤k)∧Z0 (Kd.R (Kd.int .i64) 3 w' w.heap.size (fun _=>True) v5 x5_1)∧Z0 (Below w.heap.size w w'))
 case atStart=>exact ⟨(y432),(0),(by first|rfl|(simp;done)|(simp [*];done)),H',⟨Nat.le_refl _⟩,⟨uR HO434⟩,⟨uB HB⟩⟩
 case round=>
  clear H'
  skip
  obtain ⟨x5_1,x11_1,rfl,HA,HK1,HO_5,HB⟩:=hrel;cases gk with
  |zero=>exact absurd HA.out (by simp [Qbx.l0])
  |succ k1=>
   have H:=HA.out;clear HA;simp only [Qbx.l0] at H
   by_cases c5:x11_1<(l0.length:Int)
   ·
    rw [if_pos c5] at H;have c5b0:=decide_eq_true c5;clear c5
    by_cases c6:0≤x11_1
    ·
     rw [if_pos c6] at H;have c6b0:=decide_eq_true c6;clear c6
     by_cases c7:x11_1<(l0.length:Int)
     ·
      rw [if_pos c7] at H;have c7b0:=decide_eq_true c7;clear c7
      by_cases c8:(rd l0 x11_1)=0
      ·
       rw [if_pos c8] at H;exact absurd H (by simp)
      ·
       rw [if_neg c8] at H;have c8b0:((rd l0 x11_1)==0)=false:=beq_eq_false_iff_ne.mpr c8;have c8b1:((rd l0 x11_1) !=0)=true:=bne_iff_ne.mpr c8
       by_cases c9:x5_1.length<17592186044416
       ·
        rw [if_pos c9] at H;have LMc9:=Zk c9;clear c9;obtain ⟨y436,hy436⟩: ∃ y_:List Int,y_=(x5_1++ [wrap64 (Int.tdiv a1 (rd l0 x11_1))]):=⟨_,rfl⟩
        replace H:(Qbx.l0 k1 a1 y436 l0 (l0.length:Int) (wrap64 (x11_1+1)))=some r:=by first|(rw [hy436];with_reducible exact H)|(have H2_:=(Option.bind_some _ _).symm.trans H;rw [hy436];with_reducible exact H2_)|(have H2_:=(Option.bind_some _ _).symm.trans H;with_reducible exact H2_)|with_reducible exact H|(rw [hy436];exact H)|exact H
        have Ny436:=Zk hy436;clear hy436;have H':=Zk H;clear H;have p435:0≤(x11_1:Int):=of_decide_eq_true (by first|(with_reducible assumption)|assumption);have q435:x11_1<(l0.length:Int):=of_decide_eq_true (by first|(with_reducible assumption)|assumption);obtain ⟨ad435,e435,hx435_0⟩:=Kd.at_int HR0.out x11_1 p435 q435;cases e435;replace hx435_0:=(HB.out.cell (World.block_lt_of_cell? w _ hx435_0)).trans hx435_0;replace p435:=eq_true p435;replace q435:=eq_true q435;go_wp2_with (first|((with_reducible refine Qb1 (b:= .append) (xs:= #[.tmp 15, .tmp 19]) rfl ?_);at_builtin;refine Kd.R_append (Kd.int .i64) (w0:=w) w.heap.size rfl (.tmp 15) (.tmp 19) 24 3 (.int .i64 0) 8 rfl Tryz.underlying24 Qdq rfl (by decide) (by omega) u5 x5_1 (wrap64 (Int.tdiv a1 (rd l0 x11_1))) [.int .i64 (wrap64 (Int.tdiv a1 (rd l0 x11_1)))] (fun _=>True) (fun _=>False) rfl rfl ?aP (fun _ hk=>hk.elim) ?aF ?aO ?aB ?aS ?aL ?_;(case aP=>exact rfl);(case aB=>exact (uB HB));(case aF=>exact (fun _ _=>trivial));(case aO=>exact (uR HO_5));(case aS=>exact (Qh (uB HB)));(case aL=>have:=LMc9.out;omega);intro v437 w10 ho hb hg hat;rw [←Ny436.out] at ho;replace HB:=Zk (hb);have HO438:=Zk (ho);clear HO_5;clear ho hb hg hat));go_roundg k1
        case measure=>have:=HK1.out;omega
        case rel=>exact ⟨(y436),(wrap64 (x11_1+1)),(by first|rfl|(simp;done)|(simp [*];done)),H',⟨by have:=HK1.out;omega⟩,⟨uR HO438⟩,⟨uB HB⟩⟩
       ·
        rw [if_neg c9] at H;exact absurd H (by simp)
     ·
      rw [if_neg c7] at H;exact absurd H (by simp)
    ·
     rw [if_neg c6] at H;exact absurd H (by simp)
   ·
    rw [if_neg c5] at H;have c5b0:=decide_eq_false c5;clear c5;obtain ⟨t439,A11,H⟩:=bs H;(try dsimp only at H)
    obtain rfl:=Option.some.inj H;obtain ⟨Ao12,co12,eo12⟩:=Kd.R_slice HO_5.out;subst eo12;go_wp2_with (first|(refine gA (some 23) Tryz.func189 #[.slice Ao12 x5_1.length co12] ?_;(with_reducible refine (Qdj.calls _ _ x5_1 t439 _ (uE HO_5) ?side2 A11.out).mono ?_);(case side2=>exact (Kd.R_reads' HO_5.out).2.1);rintro e w13 ⟨v440,rfl,ho0,hb⟩;refine ⟨_,rfl,?_⟩;have HO441:=Zk (Kd.R_lower (Kd.R_new' ho0 (Kd.R_lt (uR HO_5))) (Qh (uB HB)));replace HO_5:=Zk (Kd.R_elder' (uR HO_5) (Kd.R_base ho0) hb);replace HB:=Zk (Qb (uB HB) hb);(try clear hb ho0)))
    go_ret
    exact ⟨_,by first|rfl|(simp [Qe,Qf] <;>rfl)|(simp [*,Qe,Qf] <;>rfl),Kd.R_mono (uR HO441) (fun _ hk=>trivial),uB HB⟩
end Go.Proofs.YtkgngggppcmpfaaGreat.L
end
section
namespace Go.Proofs.YtkgngggppcmpfaaGreat.L
open Go.RowKit Go.Proofs.YtkgngggppcmpfaaGreatW.PrintWords Go.Proofs.YtkgngggppcmpfaaGreatW.PrintLast Go.Proofs.YtkgngggppcmpfaaGreatW.PrintMore
attribute [local go_sem] Qy Q0 Qbb Qbc Qp Qq Qz Q1
set_option linter.unusedVariables false
set_option linter.unusedSimpArgs false
def Qd.kd:Kd (List Int) where
 sz:=10
 E:= []
 K:=fun _ x cs=>x.length=10∧cs=x.map (Value.int .i64)
 M:=fun _ _ _ x cs=>x.length=10∧cs=x.map (Value.int .i64)
 K_len:=fun h=>by rw [h.2];simp [h.1]
 K_one:=fun h u hu=>by rw [h.2] at hu;obtain ⟨y,_,rfl⟩:=List.mem_map.1 hu;rfl
 K_below:=fun _ h=>h
 K_of_M:=fun h=>h
 M_mono:=fun _ h=>h
 M_bound:=fun h=>h
 M_move:=fun _ h=>h
 M_lower:=fun _ h=>h
def Qd.cs (x:List Int):Array Value:=(x.map (Value.int .i64)).toArray
theorem Qd.cs_size (x:List Int):(Qd.cs x).size=x.length:=by simp [Qd.cs]
theorem Qd.cs_one (x:List Int):(Qd.cs x).all (·.oneCell')=true:=by
 simp [Qd.cs,Value.oneCell']
theorem Qd.info:(Tryz.prog.info? 139).map (·.size)=some 10:=by kernel_rfl
theorem Qd.isArr: ∃ d,Tryz.prog.underlying 139=some d∧(match d with| .struct _| .array _ _=>true|_=>false)=true:=⟨_,Tryz.underlying139,rfl⟩
theorem Qd.sizeI:(Tryz.prog.info? 3).map (·.size)=some 1:=by kernel_rfl
theorem Qd.info_of {cs:Array Value} (h:cs.size=10):(Tryz.prog.info? 139).map (·.size)=some cs.size:=by rw [h];exact Qd.info
theorem Qd.src {w:World} {A0:Option Addr} {l0:List Int} (h:Kd.C (Kd.int .i64) w A0 l0.length l0) (hp:0<l0.length): ∃ ad,A0=some ad∧ ∀ (j:Nat) (v:Value),(l0.map (Value.int .i64))[j]? =some v→w.cell? (ad.add j)=some v:=by
 obtain ⟨ad,e,h0⟩:=Kd.at_int h 0 (by omega) (by omega);refine ⟨ad,e,fun j v hj=> ?_⟩;obtain ⟨hl,hv⟩:=List.getElem?_eq_some_iff.1 hj;rw [List.length_map] at hl;obtain ⟨ad',e',h1⟩:=Kd.at_int h (j:Int) (by omega) (by omega);rw [e] at e';cases e';rw [Int.toNat_natCast] at h1;rw [h1,←hv,List.getElem_map];simp [rd,List.getD_eq_getElem?_getD,hl]
theorem Qd.spliced {w1:World} {g:Nat} {t:TypeId} {l0 r:List Int} (hl:l0.length≤10) (he:l0++List.replicate (10 - l0.length) 0=r) (h:Hid (w1.heap[g]? =some (.cells (splice (List.replicate 10 (Value.int .i64 0)) 0 (l0.map (Value.int .i64))).toArray t (0,0)))):
 w1.heap[g]? =some (.cells (Qd.cs r) t (0,0)):=by
 have e:splice (List.replicate 10 (Value.int .i64 0)) 0 (l0.map (Value.int .i64))=r.map (Value.int .i64):=by
  rw [←he];unfold splice;rw [List.take_zero,List.nil_append,Nat.zero_add,List.drop_replicate,List.map_append,List.map_replicate,List.length_map]
 have h2:=h.out;rw [e] at h2;exact h2
def Qd.f (l0:List Int):Option (List Int):=if l0.length≤10 then some (l0++List.replicate (10 - l0.length) 0) else none
open Go.Proofs.YtkgngggppcmpfaaGreat.X in
set_option maxHeartbeats 1600000 in
set_option maxRecDepth 100000 in
theorem Qd.calls (A0:Option Addr) (c0:Nat) (l0:List Int) (r:List Int) (w:World) (hr0:Kd.C (Kd.int .i64) w A0 l0.length l0) (h:Qd.f l0=some r):
 Calls Tryz.prog 325 #[.slice A0 l0.length c0] w fun e w'=>e= .returned (.agg (Qd.cs r))∧r.length=10∧Below w.heap.size w w':=by
 unfold Qd.f at h
 split at h
 ·
  rename_i hl;have HE:=Zk (Option.some.inj h);have HL:=Zk hl;have HR:=Zk hr0;clear h hl hr0;have L1:=Zk (show r.length=10 by rw [←HE.out];have:=HL.out;simp;omega);have L0:=Zk (show (Qd.cs r).size=10 by rw [Qd.cs_size];exact L1.out);have OL:=Zk (show (List.replicate 10 (Value.int .i64 0)).toArray.size=(Qd.cs r).size from L0.out.symm);go_enter Tryz.func325,Tryz.ntmps325;go_wp2_with (first
   |((with_reducible refine wpList_copy_splice rfl (.tmp 5) (.tmp 6) 24 24 rfl 3 Tryz.underlying24 Qd.sizeI (some ⟨w.heap.size+1,0,none⟩) A0 10 10 l0.length c0 rfl rfl (w.heap.size+1) 0 (List.replicate 10 (Value.int .i64 0)) 139 ?cg (l0.map (Value.int .i64)) ?cn ?cp ?cf ?c1 (w.heap.size+1) (w.alloc (.cells (List.replicate 10 (Value.int .i64 0)).toArray 139)) ?cb (Nat.le_refl _) ?_);(case cg=>exact heap_alloc2_new w _ _);(case cn=>rw [List.length_map];exact (Nat.min_eq_left HL.out).symm);(case cp=>intro hp;rw [List.length_map] at hp;exact ⟨rfl,Qd.src (Kd.C_below HR.out (Qj (Qj (Below.refl _ _) _) _)) hp⟩);(case cf=>rw [List.length_map,List.length_replicate];have:=HL.out;omega);(case c1=>intro v hv;obtain ⟨y,_,rfl⟩:=List.mem_map.1 hv;rfl);(case cb=>exact (Below.refl _ _).alloc (by simp) _);intro w1 hg1 hb1;have G1:=Zk (Qd.spliced HL.out HE.out hg1);have B1:=Zk hb1;have G0:=Zk ((hb1.block w.heap.size (by omega)).trans (heap_alloc_new w _));clear hg1 hb1)
   |(with_reducible refine wpList_load_row rfl 139 (.tmp 3) rfl (w.heap.size+1) rfl 139 (Qd.cs r) (0,0) _ G1.out Tryz.underlying139 rfl (Qd.info_of L0.out) ?_)
   |(with_reducible refine wpList_store_row rfl 139 (.tmp 2) (.tmp 8) rfl w.heap.size (Qd.cs r) rfl rfl 139 _ G0.out (Qd.info_of L0.out) OL.out (Qd.cs_one r) ?_))
  refine bodyPost_ret (v:= .agg (Qd.cs r)) (results_cell_row rfl _ _ w.heap.size 139 (Qd.cs r) (0,0) _ rfl (setRow_heap _ _ _ _ _ _ G0.out) Tryz.underlying139 rfl (Qd.info_of L0.out)) rfl ⟨rfl,L1.out,?_⟩;exact below_setRow (((Below.refl w.heap.size w).alloc (Nat.le_refl _) _).trans (B1.out.mono (by omega))) (Nat.le_refl _) _
 ·
  cases h
theorem Qc.grown_setRow (w:World) (g:Nat) (cs:Array Value):w.grownBy (w.setRow g cs) (some g):=
 ⟨rfl,rfl,rfl,by simp,fun k _ hk=>setRow_other w g k cs (fun e=>hk (by rw [e]))⟩
theorem Qc.store {P:Program} {ops:Array Oper} {rest:List Oper} {o:Oper} {a:Act} {w:World} {Q:Exit→Act→World→Prop} (hgd:o.guard=none) (ty:TypeId) (x y:Operand) (ho:o.op= .store ty x y)
 (g:Nat) (cells:Array Value) (hx:a.eval x= .pointer (some ⟨g,0,none⟩)) (hy:a.eval y= .agg cells)
 (t:TypeId) (old:Array Value) (hg:w.heap[g]? =some (.cells old t (0,0))) (hi:(P.info? ty).map (·.size)=some cells.size)
 (hold:old.size=cells.size) (h1:cells.all (·.oneCell')=true)
 (h: ∀ W1,W1.heap[g]? =some (.cells cells t (0,0))→w.grownBy W1 (some g)→wpList P ops Q rest (a.put o.dst undef) W1):wpList P ops Q (o::rest) a w:=
 wpList_store_row hgd ty x y ho g cells hx hy t old hg hi hold h1 (h _ (setRow_heap _ _ _ _ _ _ hg) (Qc.grown_setRow _ _ _))
theorem Qc.store_new {P:Program} {ops:Array Oper} {rest:List Oper} {o:Oper} {a:Act} {w:World} {Q:Exit→Act→World→Prop} (hgd:o.guard=none) (ty:TypeId) (x y:Operand) (ho:o.op= .store ty x y)
 (cells:Array Value) (hx:a.eval x= .pointer (some ⟨w.heap.size,0,none⟩)) (hy:a.eval y= .agg cells)
 (t:TypeId) (old:Array Value) (hi:(P.info? ty).map (·.size)=some cells.size)
 (hold:old.size=cells.size) (h1:cells.all (·.oneCell')=true)
 (h: ∀ W1,W1.heap[w.heap.size]? =some (.cells cells t (0,0))→Below w.heap.size w W1→w.heap.size<W1.heap.size→wpList P ops Q rest (a.put o.dst undef) W1):wpList P ops Q (o::rest) a (w.alloc (.cells old t (0,0))):=
 wpList_store_row hgd ty x y ho w.heap.size cells hx hy t old (Qe9 _ _) hi hold h1 (h _ (setRow_heap _ _ _ _ _ _ (Qe9 _ _)) (below_setRow (Qj (Below.refl _ _) _) (Nat.le_refl _) _) (by simp))
theorem Qc.load_at {P:Program} {ops:Array Oper} {rest:List Oper} {o:Oper} {a:Act} {w:World} {Q:Exit→Act→World→Prop} (hgd:o.guard=none) (ty:TypeId) (x:Operand) (ho:o.op= .load ty x)
 (ad:Addr) (hx:a.eval x= .pointer (some ad)) (cs:Array Value) (d:TypeDesc) (hc: ∀ j v,cs.toList[j]? =some v→w.cell? (ad.add j)=some v)
 (hu:P.underlying ty=some d) (hd:(match d with| .struct _| .array _ _=>true|_=>false)=true) (hi:(P.info? ty).map (·.size)=some cs.size)
 (h:wpList P ops Q rest (a.put o.dst (.agg cs)) w):wpList P ops Q (o::rest) a w:=by
 refine wpList_plain hgd fun K hK=> ?_
 have hl:(loadCells ad cs.toList.length).run P w= .ok cs.toList.toArray w:=run_loadCells_list (P:=P) w ad cs.toList hc;have hrun:(loadVar ty ad).run P w= .ok (.agg cs) w:=by
  cases hq:P.info? ty with
  |none=>simp [hq] at hi
  |some i=>
   have hs:i.size=cs.size:=by simpa [hq] using hi
   have hagg:(isAgg ty).run P w= .ok true w:=by
    unfold isAgg;rw [Sem.run_bind,run_underlying hu w];cases d<;>simp_all
   simp only [Array.length_toList,Array.toArray_toList] at hl;simp [loadVar,Sem.run_bind,hagg,sizeOf,typeInfo,hq,hs,hl]
 unfold Oper.wp execOp;simp only [ho,hx,Instr.loadAt,Instr.sureAddr,Sem.run_bind,Sem.run_pure,Result.andThen_ok,hrun];exact hK _ _ h
def Qc.key (x:List Int):Lit:= .string (keyBytes (x.map (Lit.int .i64)))
def Qc.okk (x:List Int):Bool:=decide (x.length=10) && x.all fun v=>(Lit.int .i64 v).wf
theorem Qc.okk_len {x:List Int} (h:Qc.okk x=true):x.length=10:=by simp [Qc.okk] at h;exact h.1
theorem Qc.arr:Go.WideMaps.ArrKey Tryz.prog 139 3 10:=⟨Tryz.underlying139,by kernel_rfl,by kernel_rfl,by kernel_rfl⟩
theorem Qc.keyOf_mk {x:List Int} (h:Qc.okk x=true):keyOf Tryz.prog 139 (.agg (Qd.cs x))=some (Qc.key x):=by
 have A:=Qc.arr;have he:=Tryz.underlying3;have hx:=Qc.okk_len h;have hw: ∀ v ∈ x,(Lit.int .i64 v).wf=true:=by simp [Qc.okk] at h;exact h.2
 have hsz: ∃ m,Tryz.prog.types.size=m+1:=⟨Tryz.prog.types.size - 1,by kernel_rfl⟩
 have hkt:=A.keyType hsz;obtain ⟨m,hm⟩:=hsz
 match x,hx with
 | [a0,a1,a2,a3,a4,a5,a6,a7,a8,a9],_=>
  simp only [List.mem_cons,List.not_mem_nil,or_false,forall_eq_or_imp,forall_eq] at hw;obtain ⟨w0,w1,w2,w3,w4,w5,w6,w7,w8,w9⟩:=hw;unfold keyOf;simp only [A.hu];rw [if_pos (by simp [hkt,Value.formed,A.hu,A.size,Qd.cs]),hm];unfold Program.keyLits;simp only [A.hu,Value.cells,Qd.cs,List.map_cons,List.map_nil];rw [if_pos (by rw [A.size];rfl),show List.range 10= [0,1,2,3,4,5,6,7,8,9] from rfl];simp only [List.mapM_cons,List.mapM_nil];simp [A.one,Program.keyLits,he,Qc.key,w0,w1,w2,w3,w4,w5,w6,w7,w8,w9]
def Qc.Fvb (P:Program) (g:Nat) (bd lb:Array Value) (x r:Value) (w:World):Prop:=
 ∀ W,Below w.heap.size w W→Calls P g (bd.push x++lb) W fun e w'=>e= .returned r∧Below W.heap.size W w'
theorem Qc.Fvb.calls {P:Program} {g:Nat} {bd lb:Array Value} {x r:Value} {w W:World} (h:Qc.Fvb P g bd lb x r w) (hb:Below w.heap.size w W):
 Calls P g (bd.push x++lb) W fun e w'=>e= .returned r∧Below W.heap.size W w':=h W hb
theorem Qc.bool_inv {H:Type} {P:Program} {e:TypeId} (he:P.underlying e=some .bool) {v:Value} {z:DataW H × List MemPlace} (h:plainElem P e v=some z): ∃ c,v= .bool c∧z=(.lit (.bool c),[]):=by
 unfold plainElem at h;rw [he] at h;cases v<;>simp at h;exact ⟨_,rfl,h.symm⟩
theorem Qc.look {H:Type} {P:Program} (w:World) {ops:Array Oper} {rest:List Oper} {o:Oper} {a:Act} {Q:Exit→Act→World→Prop}
 (hg:o.guard=none) (m x:Operand) (t:TypeId) (hop:o.op=Op.lookup t m x false)
 (k e:TypeId) (K:Go.Maps.Keyed P k) (ht:P.underlying t=some (.map k e)) (he:P.underlying e=some .bool) (hz:(zeroValue e).run P w= .ok (.bool false) w) (b n:Nat) (D:DataW H)
 (hm:a.eval m= .map (some b)) (hown:w.ownsMap P k (plainElem P e) b n D) (key:Value) (kl:Lit) (hx:a.eval x=key) (hkey:keyOf P k key=some kl) (r:Bool) (hr:D.atKey kl (.lit (.bool false))= .lit (.bool r))
 (hK:wpList P ops Q rest (a.put o.dst (.bool r)) w):
 wpList P ops Q (o::rest) a w:=by
 refine wpList_plain hg fun K' hK'=> ?_
 obtain ⟨v,ps,hrun,hv⟩:=hown.lookup K ht hz (plainElem_bool he false) hkey;obtain ⟨c,rfl,hc⟩:=Qc.bool_inv he hv;simp only [Prod.mk.injEq] at hc;rw [hr] at hc;have hcr:r=c:=by have:=hc.1;injection this with this;injection this
 subst hcr;unfold Oper.wp;simp [execOp,hop,hm,hx,hrun,Result.andThen];exact hK' _ _ hK
def Qc.own:Nat→(List Int→Option (List Int))→List (List Int)→List (List Int)→List Int→Option (List (List Int) × List (List Int))
 |0,_,_,_,_=>none
 |k+1,m,met,own,x=>if Qc.okk x=true then (if met.contains x=true then some (met,own) else if met.length<17592186044416 then (if own.length<1759218604441 then (m x).bind fun y=>Qc.own k m (met++ [x]) (own++ [x]) y else none) else none) else none
def Qc.go (k:Nat) (m:List Int→Option (List Int)):List (List Int)→List (List Int)→List (List (List Int))→Option (List (List (List Int)))
 | [],_,out=>some out
 |x::l,met,out=>if Qc.okk x=true then (if met.contains x=true then Qc.go k m l met out else (Qc.own k m met [] x).bind fun r=>if out.length<5864062014805 then Qc.go k m l r.1 (out++ [r.2]) else none) else none
def Qc.f (k:Nat) (m:List Int→Option (List Int)) (l0:List (List Int)):Option (List (List (List Int))):=Qc.go k m l0 [] []
theorem Qc.own_mono {m m':List Int→Option (List Int)} (hm: ∀ x,LeO (m x) (m' x)): ∀ k met own x,LeO (Qc.own k m met own x) (Qc.own (k+1) m' met own x)
 |0,_,_,_=>fun r h=>by cases h
 |k+1,met,own,x=>by
  rw [Qc.own,Qc.own];exact LeO.ite (LeO.ite (LeO.refl _) (LeO.ite (LeO.ite (LeO.bind (hm _) fun y=>Qc.own_mono hm k _ _ _) (LeO.refl _)) (LeO.refl _))) (LeO.refl _)
theorem Qc.go_mono {m m':List Int→Option (List Int)} (hm: ∀ x,LeO (m x) (m' x)) (k:Nat): ∀ l met out,LeO (Qc.go k m l met out) (Qc.go (k+1) m' l met out)
 | [],met,out=>LeO.refl _
 |x::l,met,out=>by
  rw [Qc.go,Qc.go];exact LeO.ite (LeO.ite (Qc.go_mono hm k l _ _) (LeO.bind (Qc.own_mono hm k _ _ _) fun r=>LeO.ite (Qc.go_mono hm k l _ _) (LeO.refl _))) (LeO.refl _)
theorem Qc.mono {m m':List Int→Option (List Int)} (hm: ∀ x,LeO (m x) (m' x)) (k:Nat) (l:List (List Int)):LeO (Qc.f k m l) (Qc.f (k+1) m' l):=Qc.go_mono hm k l _ _
theorem Qc.zeroE (w:World):(zeroValue 4).run Tryz.prog w= .ok (.bool false) w:=by kernel_rfl
theorem Qc.laid:laidOutB Tryz.prog=true:=by kernel_rfl
theorem Qc.row:(139:TypeId)<Tryz.prog.types.size:=of_decide_eq_true (by kernel_rfl)
theorem Qc.wide:(match Tryz.prog.underlying 139 with|some (.array _ _)|some (.struct _)=>true|_=>false)=true:=by rw [Tryz.underlying139]
set_option maxRecDepth 100000 in
theorem Qc.law:Go.Maps.Keyed Tryz.prog 139:=Go.Maps.Keyed.of_law (deep_law_laid Qc.laid (m:=2) (by omega) Qc.row (by kernel_rfl) Qc.wide)
theorem Qc.cs_inj {x y:List Int} (h:Qd.cs x=Qd.cs y):x=y:=by
 have h2:x.map (Value.int .i64)=y.map (Value.int .i64):=by simpa [Qd.cs] using congrArg Array.toList h
 have: ∀ (x y:List Int),x.map (Value.int .i64)=y.map (Value.int .i64)→x=y:=by
  intro x
  induction x with
  |nil=>intro y h;cases y<;>simp_all
  |cons a l ih=>intro y h;cases y with
   |nil=>simp at h
   |cons b m=>simp only [List.map_cons,List.cons.injEq,Value.int.injEq,true_and] at h;rw [h.1,ih m h.2]
 exact this x y h2
set_option maxRecDepth 100000 in
theorem Qc.key_inj {x y:List Int} (hx:Qc.okk x=true) (hy:Qc.okk y=true) (h:Qc.key x=Qc.key y):x=y:=by
 have a:=Qc.keyOf_mk hx;have b:=Qc.keyOf_mk hy;rw [←h] at b;have e:=Qc.law.inj a b;injection e with e
 exact Qc.cs_inj e
set_option maxRecDepth 100000 in
theorem Qc.put_at {D:DataW Unit} {met:List (List Int)} {x:List Int} (hx:Qc.okk x=true) (hD:Go.Maps.IsMap D) (h: ∀ y,Qc.okk y=true→D.atKey (Qc.key y) (.lit (.bool false))= .lit (.bool (met.contains y))) (y:List Int) (hy:Qc.okk y=true):
 (D.put (Qc.key x) (.lit (.bool true))).atKey (Qc.key y) (.lit (.bool false))= .lit (.bool ((met++ [x]).contains y)):=by
 by_cases e:y=x
 ·
  subst e;rw [Go.Maps.atKey_put_same hD (show WideAt.IsKeyLit (Qc.key y) from trivial)];simp
 ·
  rw [Go.Maps.atKey_put_other (fun he=>e (Qc.key_inj hy hx he)),h y hy];simp [e]
theorem Qc.infoL:(Tryz.prog.info? 139).map (fun i=>(i.zero,i.size,i.bytes))=some (some (.agg #[.int .i64 0, .int .i64 0, .int .i64 0, .int .i64 0, .int .i64 0, .int .i64 0, .int .i64 0, .int .i64 0, .int .i64 0, .int .i64 0]),10,80):=by kernel_rfl
theorem Qc.map_ne {w:World} {b n:Nat} {D:DataW Unit} {k:TypeId} {R:Value→Option (DataW Unit × List MemPlace)} {cs:Array Value} {t:TypeId} (h:w.ownsMap Tryz.prog k R b n D) (h2:w.heap[b]? =some (.cells cs t (0,0))):False:=by
 obtain ⟨es,clock,hb,_⟩:=h;rw [hb] at h2;cases h2
theorem Qc.infoS:(Tryz.prog.info? 156).map (fun i=>(i.zero,i.size,i.bytes))=some (some (.slice none 0 0),1,24):=by kernel_rfl
theorem Qc.fill1 {y:List Int} (h:y.length=10):Instr.fill (fun i=>some (i*10,10)) ((Array.range (1*10)).map ((Value.agg #[.int .i64 0, .int .i64 0, .int .i64 0, .int .i64 0, .int .i64 0, .int .i64 0, .int .i64 0, .int .i64 0, .int .i64 0, .int .i64 0]).cells[· % (Value.agg #[.int .i64 0, .int .i64 0, .int .i64 0, .int .i64 0, .int .i64 0, .int .i64 0, .int .i64 0, .int .i64 0, .int .i64 0, .int .i64 0]).cells.size]!)) [(0,Value.agg (Qd.cs y))] =some (y.map (Value.int .i64)).toArray:=by
 have h2:=Great.fill_whole (s:=10) (by omega) [Value.agg (Qd.cs y)] ((Array.range (1*10)).map ((Value.agg #[.int .i64 0, .int .i64 0, .int .i64 0, .int .i64 0, .int .i64 0, .int .i64 0, .int .i64 0, .int .i64 0, .int .i64 0, .int .i64 0]).cells[· % (Value.agg #[.int .i64 0, .int .i64 0, .int .i64 0, .int .i64 0, .int .i64 0, .int .i64 0, .int .i64 0, .int .i64 0, .int .i64 0, .int .i64 0]).cells.size]!)) (fun v hv=>by rw [List.mem_singleton.1 hv];show (Qd.cs y).size=10;rw [Qd.cs_size];exact h) (by rw [Array.size_map,Array.size_range];rfl);refine h2.trans ?_;simp [Value.cells,Qd.cs]
theorem Qc.build1 {ops:Array Oper} {rest:List Oper} {o:Oper} {a:Act} {w:World} {Q:Exit→Act→World→Prop} (hg:o.guard=none) (x:Operand) (ho:o.op= .buildSlice 156 1 #[(0,x)]) (y:List Int) (hx:a.eval x= .agg (Qd.cs y)) (hy:y.length=10)
 (h:wpList Tryz.prog ops Q rest (a.put o.dst (.slice (some ⟨w.heap.size,0,none⟩) 1 1)) (w.alloc (.cells (y.map (Value.int .i64)).toArray 139))):wpList Tryz.prog ops Q (o::rest) a w:=by
 obtain ⟨ie,hie,hz⟩:=Option.map_eq_some_iff.1 Qc.infoL;simp only [Prod.mk.injEq] at hz;obtain ⟨h1,h2,h3⟩:=hz;refine wpList_buildSlice hg 156 139 1 #[(0,x)] ho _ ie _ Tryz.underlying156 hie h1 (by rw [h2];omega) (by rw [h2];omega) ?_ h;rw [h2];have:(Array.map (fun (p:Nat × Operand)=>(p.1,a.eval p.2)) #[(0,x)]).toList= [(0,Value.agg (Qd.cs y))] :=by simp [hx]
 exact (congrArg _ this).trans (Qc.fill1 hy)
open Go.Proofs.YtkgngggppcmpfaaGreat.X in
set_option maxHeartbeats 3200000 in
set_option maxRecDepth 100000 in
theorem Qc.calls (k:Nat) (A0:Option Addr) (c0:Nat) (l0:List (List Int)) (gF:Nat) (bdF lbF:Array Value) (m:List Int→Option (List Int)) (r:List (List (List Int))) (w:World) (eg: ∀ args w,(callFunc gF args).run Tryz.prog w= .ok (.enter gF args) w)
 (hr0:Kd.C Qd.kd w A0 l0.length l0) (hl:l0.length≤9223372036854775806) (hpl: ∀ x y,m x=some y→y.length=10) (hp: ∀ x y,m x=some y→Qc.Fvb Tryz.prog gF bdF lbF (.agg (Qd.cs x)) (.agg (Qd.cs y)) w) (h:Qc.f k m l0=some r):
 Calls Tryz.prog 326 #[.slice A0 l0.length c0, .func (.func gF) bdF lbF] w fun e w'=> ∃ v0_:Value,e= .returned v0_∧Kd.S (Kd.slice 139 Qd.kd) 156 w' w.heap.size (fun _=>True) v0_ r∧Below w.heap.size w w':=by
 have HR:=Zk hr0;have HL:=Zk hl;have HP:=Zk hp;have HPL:=Zk hpl;have HF:=Zk h;have HB:=Zk (Below.refl w.heap.size w);clear hr0 hl hp h hpl;have hmm:= @run_makeMap Tryz.prog;go_enter Tryz.func326,Tryz.ntmps326;go_wp2_with (first|((with_reducible refine Qu (N:=11) rfl ?_);refine Kd.S_lit (Kd.slice 139 Qd.kd) _ 156 ?hg (N:=11) ?hd (xs:=([] :List (List (List Int)))) (inner:= []) (ok:=fun _=>True) (okp:=fun _=>True) ?hr ?hp (fun _ hk=>hk) trivial (Below.refl _ _) (Nat.le_refl _) (by simp) ?_;(case hd=>rfl);(case hg=>rfl);(case hr=>first|(go_simp;done)|(go_simp;rfl));(case hp=>exact (Reps.none _ _));intro v11 w2 ho hb hg_ hnew_;have HO:=Zk ho;have B2:=Zk hb;clear ho hb hg_ hnew_));obtain ⟨W0,hW0⟩: ∃ W0,W0=w2.alloc (.map #[] 0):=⟨_,rfl⟩
 rw [←hW0];have M0:=Zk (show W0.ownsMap (H:=Unit) Tryz.prog 139 (plainElem Tryz.prog 4) w2.heap.size 0 (.map []) by rw [hW0];exact World.ownsMap_made _ _ _ _);have R0:=Zk (show Kd.S (Kd.slice 139 Qd.kd) 156 W0 w.heap.size (fun k=>k≠w2.heap.size) v11 [] by rw [hW0];exact Kd.S_alloc (Kd.S_mono (Kd.S_bound HO.out) (fun k hk=>by have:=hk.2.2.1;omega)) _);have B3:=Zk (show Below w.heap.size w W0 by rw [hW0];exact Qj B2.out _);have GB:=Zk (show w.heap.size≤w2.heap.size from B2.out.size);generalize w2.heap.size=b at M0 R0 GB ⊢;clear hW0 HO B2 hmm
 go_loopw [5,15] (fun v5 v15 wr=> ∃ (q:Nat) (met:List (List Int)) (out:List (List (List Int))) (D:DataW Unit),v15= .int .i64 q∧q≤l0.length∧Z0 (Qc.go k m (l0.drop q) met out=some r)∧Z0 (wr.ownsMap Tryz.prog 139 (plainElem Tryz.prog 4) b met.length D)∧Z0 (∀ y,Qc.okk y=true→D.atKey (Qc.key y) (.lit (.bool false))= .lit (.bool (met.contains y)))∧Z0 (Kd.S (Kd.slice 139 Qd.kd) 156 wr w.heap.size (fun k=>k≠b) v5 out)∧Z0 (Below w.heap.size w wr)) (fun _ v15 _=>l0.length - (intOf v15).toNat)
 case atStart=>exact ⟨0,[],[],_,rfl,Nat.zero_le _,⟨by rw [List.drop_zero];exact HF.out⟩,M0,⟨fun y _=>rfl⟩,R0,B3⟩
 case round=>
  obtain ⟨q,met,out,D,rfl,hq,HG,HM,HD,HO,HB⟩:=hrel
  by_cases hlt:q<l0.length
  ·
   have hG:=HG.out;rw [List.drop_eq_getElem_cons hlt,Qc.go] at hG
   split at hG
   ·
    rename_i hwf;obtain ⟨ad,cc,e1,hcl,hK,hcc⟩:=Kd.C_get (Kd.C_below HR.out HB.out) ([] :List Int) (q:Int) (by omega) (by omega);cases e1;rw [Int.toNat_natCast] at hK hcc;have e3:l0.getD q [] =l0[q] :=by simp [List.getD_eq_getElem?_getD,hlt]
    rw [e3] at hK;have e2:wrap64 ((q:Int)+1)=((q+1:Nat):Int):=by have:=HL.out;unfold wrap64;omega
    obtain ⟨x,hxe⟩: ∃ x,x=l0[q] :=⟨_,rfl⟩
    rw [←hxe] at hK hG hwf;obtain ⟨hxl,rfl⟩:=hK;have WF:=Zk hwf;have XC:=Zk (show ∀ (j:Nat) (v:Value),(Qd.cs x).toList[j]? =some v→wr.cell? ((ad.add (q*10)).add j)=some v by intro j v hv;rw [show (ad.add (q*10)).add j=ad.add (q*10+j) from Addr.add_add _ _ _];exact hcc j v (by simpa [Qd.cs] using hv));have XS:=Zk (show (Qd.cs x).size=10 by rw [Qd.cs_size];exact hxl);clear hxe hwf hcc hcl e3 hxl;have p1:0≤((q:Nat):Int):=by omega
    have q1:((q:Nat):Int)<(l0.length:Int):=by omega
    by_cases hc:met.contains x=true
    ·
     rw [if_pos hc] at hG;have HC:=Zk hc;have HG2:=Zk hG;clear hc hG HG;go_wp2_with (first|((with_reducible refine Qc.load_at rfl 139 (.tmp 17) rfl (ad.add (q*10)) rfl (Qd.cs x) _ XC.out Tryz.underlying139 rfl (Qd.info_of XS.out) ?_))|((with_reducible refine Qc.store_new rfl 139 (.tmp 8) (.tmp 18) rfl (Qd.cs x) rfl rfl 139 _ (Qd.info_of XS.out) ?hs (Qd.cs_one x) ?_);(case hs=>exact XS.out.symm);intro w1 hx8 hb hz;have X8:=Zk hx8;have B1:=Zk (Qbp HB.out hb);have M1:=Zk (HM.out.kept (Qej hb none) (by simp));have O1:=Zk (Kd.S_below HO.out hb);clear hx8 hb hz)|((with_reducible refine wpList_load_row rfl 139 (.tmp 8) rfl wr.heap.size rfl 139 (Qd.cs x) (0,0) _ X8.out Tryz.underlying139 rfl (Qd.info_of XS.out) ?_))|(at_lookup;refine Qc.look _ rfl _ _ 167 rfl 139 4 Qc.law Tryz.underlying167 Tryz.underlying4 (Qc.zeroE _) b met.length D rfl M1.out _ (Qc.key x) rfl (Qc.keyOf_mk WF.out) true (by rw [HD.out _ WF.out,HC.out]) ?_));go_roundw
     case rel=>exact ⟨q+1,met,out,D,by first|rfl|go_num,by omega,HG2,M1,HD,O1,B1⟩
     case measure=>(try simp only [e2]);exact (Nat.sub_lt_sub_left (by omega) (Nat.lt_succ_self q):l0.length - (q+1)<l0.length - q)
    ·
     rw [if_neg hc] at hG;obtain ⟨rr,hrr,hG⟩:=Option.bind_eq_some_iff.mp hG
     split at hG
     ·
      rename_i hol;have HOL:=Zk hol;have HC:=Zk (show met.contains x=false by simpa using hc);have HG2:=Zk hG;have HRR:=Zk hrr;clear hol hc hG hrr HG;go_wp2_with (first|((with_reducible refine Qc.load_at rfl 139 (.tmp 17) rfl (ad.add (q*10)) rfl (Qd.cs x) _ XC.out Tryz.underlying139 rfl (Qd.info_of XS.out) ?_))|((with_reducible refine Qc.store_new rfl 139 (.tmp 8) (.tmp 18) rfl (Qd.cs x) rfl rfl 139 _ (Qd.info_of XS.out) ?hs (Qd.cs_one x) ?_);(case hs=>exact XS.out.symm);intro w1 hx8 hb hz;have X8:=Zk hx8;have B1:=Zk (Qbp HB.out hb);have M1:=Zk (HM.out.kept (Qej hb none) (by simp));have O1:=Zk (Kd.S_below HO.out hb);clear hx8 hb hz)|((with_reducible refine wpList_load_row rfl 139 (.tmp 8) rfl wr.heap.size rfl 139 (Qd.cs x) (0,0) _ X8.out Tryz.underlying139 rfl (Qd.info_of XS.out) ?_))|((with_reducible refine wpList_load_row rfl 139 (.tmp 8) rfl wr.heap.size rfl 139 (Qd.cs x) (0,0) _ X84.out Tryz.underlying139 rfl (Qd.info_of XS.out) ?_))|(at_lookup;refine Qc.look _ rfl _ _ 167 rfl 139 4 Qc.law Tryz.underlying167 Tryz.underlying4 (Qc.zeroE _) b met.length D rfl M1.out _ (Qc.key x) rfl (Qc.keyOf_mk WF.out) false (by rw [HD.out _ WF.out,HC.out]) ?_)|((with_reducible refine Qu (N:=22) rfl ?_);refine Kd.R_lit Qd.kd w.heap.size 139 ?hg (N:=22) ?hd (xs:=([] :List (List Int))) (inner:= []) (ok:=fun k_=>k_≠b∧some k_≠(u5:Value).ownBlock) (okp:=fun k_=>k_≠b∧some k_≠(u5:Value).ownBlock) ?hr ?hp (fun _ hk=>hk) ?hf B1.out B1.out.size (by simp) ?_;(case hd=>rfl);(case hg=>rfl);(case hr=>first|(go_simp;done)|(go_simp;rfl));(case hp=>exact (Reps.none _ _));(case hf=>exact ⟨by have:=M1.out.lt;omega,fun e=>by have:=Kd.S_lt O1.out _ e.symm;omega⟩);intro v22 w4 ho hb hg hnew;have HW:=Zk ho;have B4:=Zk hb;have X84:=Zk (Qc8 X8.out hg (by simp));have HM4:=Zk (M1.out.kept hg (by simp));have HO4:=Zk (show Kd.S (Kd.slice 139 Qd.kd) 156 w4 w.heap.size (fun k_=>k_≠b∧some k_≠(v22:Value).ownBlock) u5 out from Kd.S_grown (Kd.S_mono (Kd.S_bound O1.out) (fun k hk=>⟨hk.1,fun e=>by obtain ⟨b',h1,h2⟩:=hnew;rw [h1] at e;injection e with e;have:=hk.2.2.1;omega⟩)) hg (fun _ _=>by simp));clear ho hb hg hnew)|((with_reducible refine Qc.store_new rfl 139 (.tmp 10) (.tmp 23) rfl (Qd.cs x) rfl rfl 139 _ (Qd.info_of XS.out) ?hs (Qd.cs_one x) ?_);(case hs=>exact XS.out.symm);intro w5 hx10 hb hz;have X10:=Zk hx10;have BX:=Zk hz;have B5:=Zk (Qbp B4.out hb);have HM5:=Zk (HM4.out.kept (Qej hb none) (by simp));have HO5:=Zk (Kd.S_below HO4.out hb);have HW5:=Zk (show Kd.R Qd.kd 139 w5 w.heap.size (fun k_=>k_≠b∧k_≠w4.heap.size∧some k_≠(u5:Value).ownBlock) v22 [] from Kd.R_below (Kd.R_mono (Kd.R_bound HW.out) (fun k hk=>⟨hk.1.1,by have:=hk.2.2.1;omega,hk.1.2⟩)) hb);clear hx10 hb hz));have LO:=Zk (fun (k_:Nat) (e:(u5:Value).ownBlock=some k_)=>Kd.S_lt HO5.out k_ e);have BL:=Zk HM5.out.lt;have SZ5:=Zk (Nat.le_refl w5.heap.size)
      (try simp only [Act.put,List.setIfInBounds_toArray,List.set_cons_zero,List.set_cons_succ])
      go_loopg [9,10] k (fun kq v9 v10 wi=> ∃ (met1 own:List (List Int)) (y:List Int) (D1:DataW Unit) (bx:Nat),v10= .pointer (some ⟨bx,0,none⟩)∧Z0 (Qc.own kq m met1 own y=some rr)∧Z0 (kq≤k)∧Z0 (wi.heap[bx]? =some (.cells (Qd.cs y) 139 (0,0)))∧Z0 (wi.ownsMap Tryz.prog 139 (plainElem Tryz.prog 4) b met1.length D1)∧Z0 (∀ y,Qc.okk y=true→D1.atKey (Qc.key y) (.lit (.bool false))= .lit (.bool (met1.contains y)))∧Z0 (Kd.S (Kd.slice 139 Qd.kd) 156 wi w.heap.size (fun k_=>k_≠b∧some k_≠(v9:Value).ownBlock) u5 out)∧Z0 (Kd.R Qd.kd 139 wi w.heap.size (fun k_=>k_≠b∧k_≠bx∧some k_≠(u5:Value).ownBlock) v9 own)∧Z0 (w5.heap.size≤wi.heap.size)∧Z0 (Below w.heap.size w wi))
      case atStart=>exact ⟨met,[],x,D,_,rfl,HRR,⟨Nat.le_refl _⟩,X10,HM5,HD,HO5,HW5,SZ5,B5⟩
      case round=>
       clear HM5 HD HO5 HW5 SZ5 B5 X10 X84 X8 HM4 HO4 HW B4 M1 O1 B1;obtain ⟨met1,own,y,D1,bx,rfl,HA,HK1,HX,HM,HD,HO,HW,SZ,HB⟩:=hrel;cases gk with
       |zero=>exact absurd HA.out (by simp [Qc.own])
       |succ k1=>
        have hA:=HA.out;rw [Qc.own] at hA
        split at hA
        ·
         rename_i hwf;have WF2:=Zk hwf;have YL:=Zk (Qc.okk_len hwf);have YS:=Zk (show (Qd.cs y).size=10 by rw [Qd.cs_size];exact Qc.okk_len hwf);clear hwf HA
         by_cases hc:met1.contains y=true
         ·
          rw [if_pos hc] at hA;have hrr:=Option.some.inj hA;subst hrr;have HC2:=Zk hc;clear hA hc;obtain ⟨Ao,co,eo⟩:=Kd.R_slice HW.out;subst eo;go_wp2_with (first|((with_reducible refine wpList_load_row rfl 139 (.tmp 10) rfl bx rfl 139 (Qd.cs y) (0,0) _ HX.out Tryz.underlying139 rfl (Qd.info_of YS.out) ?_))|(at_lookup;refine Qc.look _ rfl _ _ 167 rfl 139 4 Qc.law Tryz.underlying167 Tryz.underlying4 (Qc.zeroE _) b met1.length D1 rfl HM.out _ (Qc.key y) rfl (Qc.keyOf_mk WF2.out) true (by rw [HD.out _ WF2.out,HC2.out]) ?_)|((with_reducible refine Qb1 (b:= .append) (xs:= #[.tmp 38, .tmp 40]) rfl ?_);at_builtin;refine Kd.S_append (Kd.slice 139 Qd.kd) (w0:=w) w.heap.size rfl (.tmp 38) (.tmp 40) 134 156 (.slice none 0 0) 24 rfl Tryz.underlying134 Qc.infoS rfl (by decide) (by omega) u5 out own _ (fun k_=>k_≠b) (fun k_=>some k_=(Value.slice Ao own.length co).ownBlock) rfl rfl ?aP (fun k_ hk=>⟨(HW.out.1 k_ hk.symm).1,(HW.out.1 k_ hk.symm).2.2⟩) ?aF ?aO ?aB ?aS ?aL ?_;(case aP=>exact Kd.M_row (Kd.R_tight rfl HW.out));(case aF=>exact fun k_ hk=>by have:=HM.out.lt;omega);(case aO=>exact HO.out);(case aB=>exact HB.out);(case aS=>exact HB.out.size);(case aL=>have:=HOL.out;omega);intro v41 w8 ho hb hg hat;have HO8:=Zk ho;have B8:=Zk hb;have HM8:=Zk (HM.out.kept hg (Kd.S_away HO.out (fun _ hk=>hk.1)));clear ho hb hg hat));go_roundw
          case rel=>exact ⟨q+1,met1,out++ [own],D1,by first|rfl|go_num,by omega,HG2,HM8,HD,HO8,B8⟩
          case measure=>(try simp only [e2]);exact (Nat.sub_lt_sub_left (by omega) (Nat.lt_succ_self q):l0.length - (q+1)<l0.length - q)
         ·
          rw [if_neg hc] at hA
          split at hA
          ·
           rename_i hml
           split at hA
           ·
            rename_i hol2;obtain ⟨z,hz,hA⟩:=Option.bind_eq_some_iff.mp hA;have HC2:=Zk (show met1.contains y=false by simpa using hc);have HZ:=Zk (HP.out y z hz);have ZL:=Zk (show (Qd.cs z).size=10 by rw [Qd.cs_size];exact HPL.out y z hz);have HA2:=Zk hA;have HML:=Zk hml;have HOL2:=Zk hol2;have NB:=Zk (show bx≠b from fun e=>by have h1:=HX.out;rw [e] at h1;exact Qc.map_ne HM.out h1);clear hc hA hz hml hol2;go_wp2_with (first|((with_reducible refine wpList_load_row rfl 139 (.tmp 10) rfl bx rfl 139 (Qd.cs y) (0,0) _ HX.out Tryz.underlying139 rfl (Qd.info_of YS.out) ?_))|((with_reducible refine wpList_load_row rfl 139 (.tmp 10) rfl bx rfl 139 (Qd.cs y) (0,0) _ X6.out Tryz.underlying139 rfl (Qd.info_of YS.out) ?_))|((with_reducible refine wpList_load_row rfl 139 (.tmp 10) rfl bx rfl 139 (Qd.cs y) (0,0) _ X7.out Tryz.underlying139 rfl (Qd.info_of YS.out) ?_))|((with_reducible refine wpList_load_row rfl 139 (.tmp 10) rfl w7.heap.size rfl 139 (Qd.cs y) (0,0) _ X8.out Tryz.underlying139 rfl (Qd.info_of YS.out) ?_))|(at_lookup;refine Qc.look _ rfl _ _ 167 rfl 139 4 Qc.law Tryz.underlying167 Tryz.underlying4 (Qc.zeroE _) b met1.length D1 rfl HM.out _ (Qc.key y) rfl (Qc.keyOf_mk WF2.out) false (by rw [HD.out _ WF2.out,HC2.out]) ?_)|(at_mapUpdate;refine wpList_mapUpdate_own _ rfl _ _ _ 167 rfl 139 4 Qc.law Tryz.underlying167 (plainElem Tryz.prog 4) b met1.length D1 rfl HM.out (by have:=HML.out;unfold maxLen;omega) _ _ (Qc.key y) rfl rfl (Qc.keyOf_mk WF2.out) (.lit (.bool true)) [] (plainElem_bool Tryz.underlying4 true) ?_;intro w6 hm6 hg6;have HM6:=Zk hm6;have X6:=Zk (Qc8 HX.out hg6 (fun e=>NB.out (Option.some.inj e)));have HO6:=Zk (Kd.S_grown HO.out hg6 (fun k_ hk=>by intro e;injection e with e;exact hk.1 e));have HW6:=Zk (Kd.R_grown HW.out hg6 (fun k_ hk=>by intro e;injection e with e;exact hk.1 e));have B6:=Zk (Qfm HB.out (some b) HB.out.size hg6 (fun k_ e=>by injection e with e;rw [←e];exact GB.out));have SZ6:=Zk (Nat.le_trans SZ.out hg6.size);clear hm6 hg6)|((with_reducible refine Qc.build1 rfl (.tmp 34) rfl y rfl YL.out ?_))|((with_reducible refine Qb1 (b:= .append) (xs:= #[.tmp 33, .tmp 35]) rfl ?_);at_builtin;refine Kd.R_append Qd.kd (w0:=w) w.heap.size rfl (.tmp 33) (.tmp 35) 156 139 _ 80 rfl Tryz.underlying156 Qc.infoL rfl (by decide) (by omega) u9 own y (y.map (Value.int .i64)) (fun k_=>k_≠b∧k_≠bx∧some k_≠(u5:Value).ownBlock) (fun _=>False) rfl rfl ?aP (fun _ hk=>hk.elim) ?aF ?aO ?aB ?aS ?aL ?_;(case aP=>exact ⟨YL.out,rfl⟩);(case aF=>exact fun k_ hk=>⟨by have:=BL.out;have:=SZ6.out;omega,by have:=Qd8 X6.out;omega,fun e=>by have:=LO.out k_ e.symm;have:=SZ6.out;omega⟩);(case aO=>exact HW6.out);(case aB=>exact B6.out);(case aS=>exact B6.out.size);(case aL=>have:=HOL2.out;omega);intro v36 w7 ho hb hg hat;have HW7:=Zk ho;have B7:=Zk hb;have X7:=Zk (Qc8 X6.out hg (fun e=>(HW6.out.1 bx e.symm).2.1 rfl));have HM7:=Zk (HM6.out.kept hg (fun e=>(HW6.out.1 b e.symm).1 rfl));have HO7:=Zk (Kd.S_after (v:=u9) (v1:=v36) (ok:=fun k_=>k_≠b) HO6.out hg hat);have SZ7:=Zk (Nat.le_trans SZ6.out hg.size);clear ho hb hg hat)|((with_reducible refine Qc.store_new rfl 139 (.tmp 10) (.tmp 37) rfl (Qd.cs y) rfl rfl 139 _ (Qd.info_of YS.out) ?hs (Qd.cs_one y) ?_);(case hs=>exact YS.out.symm);intro w8 hx8 hb hz;have X8:=Zk hx8;have BB8:=Zk hb;have Z8:=Zk hz;clear hx8 hb hz)|(go_at_fn gF;(with_reducible refine (Qc.Fvb.calls HZ.out (Qbp B7.out BB8.out)).mono ?_);rintro e w9 ⟨rfl,hb⟩;have X9:=Zk (Qbg X8.out hb);have BB9:=Zk (Qbp BB8.out hb);have Z9:=Zk (Nat.lt_of_lt_of_le Z8.out hb.size);clear hb)|((with_reducible refine Qc.store rfl 139 (.tmp 10) (.tmp 30) rfl w7.heap.size (Qd.cs z) rfl rfl 139 (Qd.cs y) X9.out (Qd.info_of ZL.out) ?hs (Qd.cs_one z) ?_);(case hs=>exact YS.out.trans ZL.out.symm);intro w10 hx10 hg10;have X10:=Zk hx10;have BB10:=Zk (Qfm BB9.out (some w7.heap.size) BB9.out.size hg10 (fun k_ e=>by injection e with e;omega));clear hx10 hg10));go_roundg k1
            case measure=>have:=HK1.out;omega
            case rel=>exact ⟨met1++ [y],own++ [y],z,_,w7.heap.size,rfl,HA2,⟨by have:=HK1.out;omega⟩,X10,⟨by rw [List.length_append];exact HM7.out.kept (Qej BB10.out none) (by simp)⟩,⟨Qc.put_at WF2.out HM.out.isMap HD.out⟩,⟨Kd.S_below HO7.out BB10.out⟩,⟨Kd.R_below (Kd.R_mono (Kd.R_bound HW7.out) (fun k hk=>⟨hk.1.1,by have:=hk.2.2.1;omega,hk.1.2.2⟩)) BB10.out⟩,⟨Nat.le_trans SZ7.out BB10.out.size⟩,⟨Qbp B7.out BB10.out⟩⟩
           ·
            cases hA
          ·
           cases hA
        ·
         cases hA
     ·
      cases hG
   ·
    cases hG
  ·
   have e1:r=out:=by
    have:=HG.out;rw [List.drop_of_length_le (by omega),Qc.go] at this;exact (Option.some.inj this).symm
   subst e1;go_wp2
   go_ret
   exact ⟨_,rfl,Kd.S_mono HO.out (fun _ _=>trivial),HB.out⟩
def Qc1.f (l0 x:List Int) (j:Nat):Option (List Int):=
 if x.length=10∧j+1<10∧0≤rd x (j:Int)∧rd x (j:Int)<(l0.length:Int)∧0≤rd x ((j+1:Nat):Int)∧rd x ((j+1:Nat):Int)<(l0.length:Int) then
  (Qeu.f (rd l0 (rd x (j:Int))) (rd x ((j+1:Nat):Int))).bind fun h1=>if h1=true then some x else (Qeu.f (rd l0 (rd x ((j+1:Nat):Int))) (rd x (j:Int))).bind fun h2=>if h2=true then some x else some ((x.set j (rd x ((j+1:Nat):Int))).set (j+1) (rd x (j:Int)))
 else none
theorem Qc1.cs_get {x:List Int} {j:Nat} (h:j<x.length):(Qd.cs x)[j]? =some (.int .i64 (rd x (j:Int))):=by
 simp [Qd.cs,rd,List.getD_eq_getElem?_getD,h]
theorem Qc1.cs_set {x:List Int} {j:Nat} {v:Int} :(Qd.cs x).setIfInBounds j (.int .i64 v)=Qd.cs (x.set j v):=by
 simp [Qd.cs,List.map_set]
open Go.Proofs.YtkgngggppcmpfaaGreat.X in
set_option maxHeartbeats 1600000 in
set_option maxRecDepth 100000 in
theorem Qc1.calls (A0:Option Addr) (c0:Nat) (l0 x:List Int) (j:Nat) (r:List Int) (w:World) (hr0:Kd.C (Kd.int .i64) w A0 l0.length l0) (h:Qc1.f l0 x j=some r):
 Calls Tryz.prog 348 #[.agg #[.slice A0 l0.length c0], .agg (Qd.cs x), .int .i64 (j:Int)] w fun e w'=>e= .returned (.agg (Qd.cs r))∧r.length=10∧Below w.heap.size w w':=by
 unfold Qc1.f at h
 split at h
 ·
  rename_i hc;obtain ⟨hx,hj,a0,a1,b0,b1⟩:=hc;obtain ⟨h1,hh1,h⟩:=Option.bind_eq_some_iff.mp h;have HR:=Zk hr0;have HX:=Zk hx;have L0:=Zk (show (Qd.cs x).size=10 by rw [Qd.cs_size];exact hx);obtain ⟨a,ha⟩: ∃ a,a=rd x (j:Int):=⟨_,rfl⟩
  obtain ⟨b,hb⟩: ∃ b,b=rd x ((j+1:Nat):Int):=⟨_,rfl⟩
  have ga:=Zk (show (Qd.cs x)[j]? =some (.int .i64 a) by rw [ha];exact Qc1.cs_get (by omega));have gb:=Zk (show (Qd.cs x)[j+1]? =some (.int .i64 b) by rw [hb];exact Qc1.cs_get (by omega));rw [←ha] at a0 a1;rw [←hb] at b0 b1;rw [←ha,←hb] at hh1 h;have HH1:=Zk hh1;have HF:=Zk h;clear ha hb;have hu:=Tryz.underlying26;clear hr0 hx hh1 h;go_enter Tryz.func348,Tryz.ntmps348;go_wp2_with fail;obtain ⟨Z,hZ⟩: ∃ Z:Array Value,Z= #[Value.int IntKind.i64 0,Value.int IntKind.i64 0,Value.int IntKind.i64 0,Value.int IntKind.i64 0,Value.int IntKind.i64 0,Value.int IntKind.i64 0,Value.int IntKind.i64 0,Value.int IntKind.i64 0,Value.int IntKind.i64 0,Value.int IntKind.i64 0] :=⟨_,rfl⟩
  rw [←hZ];obtain ⟨W,hW⟩: ∃ W,W=((w.alloc (.cells #[.slice A0 l0.length c0] 26)).alloc (.cells (Qd.cs x) 139)).alloc (.cells Z 139):=⟨_,rfl⟩
  rw [←hW];have BW:=Zk (show Below w.heap.size w W by rw [hW];exact Qj (Qj (Qj (Below.refl _ _) _) _) _);have G3:=Zk (show W.heap[w.heap.size]? =some (.cells #[.slice A0 l0.length c0] 26 (0,0)) by rw [hW];exact Qci (Qci (Qe9 _ _) _) _);have G4:=Zk (show W.heap[w.heap.size+1]? =some (.cells (Qd.cs x) 139 (0,0)) by rw [hW];exact Qci (heap_alloc2_new _ _ _) _);have G6:=Zk (show W.heap[w.heap.size+1+1]? =some (.cells Z 139 (0,0)) by rw [hW];have:=Qe9 ((w.alloc (.cells #[.slice A0 l0.length c0] 26)).alloc (.cells (Qd.cs x) 139)) (.cells Z 139);simpa using this);have ZS:=Zk (show Z.size=10 by rw [hZ];rfl);clear hW hZ;have z3:=Qcs G3.out 0;have z4a:=(Qcs G4.out j).trans ga.out;have z4b:=(Qcs G4.out (j+1)).trans gb.out;obtain ⟨ad,e1,xa⟩:=Kd.at_int (Kd.C_below HR.out BW.out) a a0 a1;obtain ⟨ad',e2,xb⟩:=Kd.at_int (Kd.C_below HR.out BW.out) b b0 b1;cases e1;cases e2
  go_quiet (fail)
  obtain ⟨W1,hW1⟩: ∃ W1,W1=W.drewN nq:=⟨_,rfl⟩
  rw [←hW1];have B1:=Zk (show Below w.heap.size w W1 by rw [hW1];exact Qk BW.out _);have K3:=Zk (show W1.heap[w.heap.size]? =some (.cells #[.slice (some ad) l0.length c0] 26 (0,0)) by rw [hW1];exact Qcg G3.out _);have K4:=Zk (show W1.heap[w.heap.size+1]? =some (.cells (Qd.cs x) 139 (0,0)) by rw [hW1];exact Qcg G4.out _);have K6:=Zk (show W1.heap[w.heap.size+1+1]? =some (.cells Z 139 (0,0)) by rw [hW1];exact Qcg G6.out _);have xa1:W1.cell? (ad.add a.toNat)=some (.int .i64 (rd l0 a)):=by rw [hW1];exact xa
  have xb1:W1.cell? (ad.add b.toNat)=some (.int .i64 (rd l0 b)):=by rw [hW1];exact xb
  clear hW1 xa xb z3 z4a z4b G3 G4 G6 BW;have z3:=Qcs K3.out 0;have f4a:=Q6 K4.out j;have f4b:=Q6 K4.out (j+1);have z4a:=(Qcs K4.out j).trans ga.out;have z4b:=(Qcs K4.out (j+1)).trans gb.out;have h:=HF.out
  by_cases q1:h1=true
  ·
   subst q1;rw [if_pos rfl] at h;cases h;have OL:=Zk (show Z.size=(Qd.cs x).size by rw [ZS.out,L0.out]);clear HF;go_wp2_with (first|(go_at_call 294;refine (Qeu.calls _ _ true _ HH1.out).mono ?_;rintro e w' ⟨rfl,⟨nd1,rfl⟩⟩)|(with_reducible refine wpList_load_row rfl 139 (.tmp 4) rfl (w.heap.size+1) rfl 139 (Qd.cs x) (0,0) _ (Qcg K4.out _) Tryz.underlying139 rfl (Qd.info_of L0.out) ?_)|(with_reducible refine wpList_store_row rfl 139 (.tmp 6) (.tmp 41) rfl (w.heap.size+1+1) (Qd.cs x) rfl rfl 139 Z (Qcg K6.out _) (Qd.info_of L0.out) OL.out (Qd.cs_one x) ?_));refine bodyPost_ret (v:= .agg (Qd.cs x)) (results_cell_row rfl _ _ (w.heap.size+1+1) 139 (Qd.cs x) (0,0) _ rfl (setRow_heap _ _ Z _ _ _ (Qcg K6.out _)) Tryz.underlying139 rfl (Qd.info_of L0.out)) rfl ⟨rfl,HX.out,?_⟩;exact below_setRow (Qk B1.out _) (by omega) _
  ·
   rw [if_neg q1] at h;obtain ⟨h2,hh2,h⟩:=Option.bind_eq_some_iff.mp h;have HH2:=Zk hh2;have q1:h1=false:=by simpa using q1
   subst q1;clear hh2
   by_cases q2:h2=true
   ·
    subst q2;rw [if_pos rfl] at h;cases h;have OL:=Zk (show Z.size=(Qd.cs x).size by rw [ZS.out,L0.out]);clear HF;go_wp2_with (first|(go_at_call 294;refine (Qeu.calls _ _ false _ HH1.out).mono ?_;rintro e w' ⟨rfl,⟨nd1,rfl⟩⟩)|(go_at_call 294;refine (Qeu.calls _ _ true _ HH2.out).mono ?_;rintro e w' ⟨rfl,⟨nd2,rfl⟩⟩)|(with_reducible refine wpList_load_row rfl 139 (.tmp 4) rfl (w.heap.size+1) rfl 139 (Qd.cs x) (0,0) _ (Qcg K4.out _) Tryz.underlying139 rfl (Qd.info_of L0.out) ?_)|(with_reducible refine wpList_store_row rfl 139 (.tmp 6) (.tmp 41) rfl (w.heap.size+1+1) (Qd.cs x) rfl rfl 139 Z (Qcg K6.out _) (Qd.info_of L0.out) OL.out (Qd.cs_one x) ?_));refine bodyPost_ret (v:= .agg (Qd.cs x)) (results_cell_row rfl _ _ (w.heap.size+1+1) 139 (Qd.cs x) (0,0) _ rfl (setRow_heap _ _ Z _ _ _ (Qcg K6.out _)) Tryz.underlying139 rfl (Qd.info_of L0.out)) rfl ⟨rfl,HX.out,?_⟩;exact below_setRow (Qk B1.out _) (by omega) _
   ·
    have q2:h2=false:=by simpa using q2
    subst q2;rw [if_neg (by decide)] at h;have HE:=Zk (Option.some.inj h);clear h;have XR:=Zk (show r.length=10 by rw [←HE.out];simp [HX.out]);have LR:=Zk (show (Qd.cs r).size=10 by rw [Qd.cs_size];exact XR.out);have OL:=Zk (show Z.size=(Qd.cs r).size by rw [ZS.out,LR.out]);have KR:=Zk (fun n:Nat=>show (((W1.drewN n).setCell ⟨w.heap.size+1,j,none⟩ (.int .i64 b)).setCell ⟨w.heap.size+1,j+1,none⟩ (.int .i64 a)).heap[w.heap.size+1]? =some (.cells (Qd.cs r) 139 (0,0)) by have:=Qgi (Qgi (Qcg K4.out n) j (.int .i64 b)) (j+1) (.int .i64 a);rw [Qc1.cs_set,Qc1.cs_set,HE.out] at this;exact this);have KS:=Zk (fun n:Nat=>show (((W1.drewN n).setCell ⟨w.heap.size+1,j,none⟩ (.int .i64 b)).setCell ⟨w.heap.size+1,j+1,none⟩ (.int .i64 a)).heap[w.heap.size+1+1]? =some (.cells Z 139 (0,0)) from Qd5 (Qd5 (Qcg K6.out n) (show w.heap.size+1+1≠w.heap.size+1 by omega) _) (show w.heap.size+1+1≠w.heap.size+1 by omega) _);have BR:=Zk (fun n:Nat=>show Below w.heap.size w (((W1.drewN n).setCell ⟨w.heap.size+1,j,none⟩ (.int .i64 b)).setCell ⟨w.heap.size+1,j+1,none⟩ (.int .i64 a)) from Qbt (Qbt (Qk B1.out n) (by show w.heap.size≤w.heap.size+1;omega)) (by show w.heap.size≤w.heap.size+1;omega));clear HF;go_wp2_with (first|(go_at_call 294;refine (Qeu.calls _ _ false _ HH1.out).mono ?_;rintro e w' ⟨rfl,⟨nd1,rfl⟩⟩)|(go_at_call 294;refine (Qeu.calls _ _ false _ HH2.out).mono ?_;rintro e w' ⟨rfl,⟨nd2,rfl⟩⟩)|(with_reducible refine wpList_load_row rfl 139 (.tmp 4) rfl (w.heap.size+1) rfl 139 (Qd.cs r) (0,0) _ (KR.out _) Tryz.underlying139 rfl (Qd.info_of LR.out) ?_)|(with_reducible refine wpList_store_row rfl 139 (.tmp 6) (.tmp 41) rfl (w.heap.size+1+1) (Qd.cs r) rfl rfl 139 Z (KS.out _) (Qd.info_of LR.out) OL.out (Qd.cs_one r) ?_));refine bodyPost_ret (v:= .agg (Qd.cs r)) (results_cell_row rfl _ _ (w.heap.size+1+1) 139 (Qd.cs r) (0,0) _ rfl (setRow_heap _ _ Z _ _ _ (KS.out _)) Tryz.underlying139 rfl (Qd.info_of LR.out)) rfl ⟨rfl,XR.out,?_⟩;exact below_setRow (BR.out _) (by omega) _
 ·
  cases h
def Qby.go (l0:List Int):Nat→Nat→List Int→Option (List Int)
 |0,_,x=>some x
 |d+1,j,x=>(Qc1.f l0 x j).bind fun y=>Qby.go l0 d (j+1) y
def Qby.f (l0 x:List Int):Option (List Int):=if l0.length≤10∧x.length=10 then Qby.go l0 (l0.length - 1) 0 x else none
open Go.Proofs.YtkgngggppcmpfaaGreat.X in
set_option maxHeartbeats 1600000 in
set_option maxRecDepth 100000 in
theorem Qby.calls (A0:Option Addr) (c0:Nat) (l0 x:List Int) (r:List Int) (w:World) (hr0:Kd.C (Kd.int .i64) w A0 l0.length l0) (hc0:l0.length≤c0) (h:Qby.f l0 x=some r):
 Calls Tryz.prog 327 #[.agg #[.slice A0 l0.length c0], .agg (Qd.cs x)] w fun e w'=>e= .returned (.agg (Qd.cs r))∧r.length=10∧Below w.heap.size w w':=by
 unfold Qby.f at h
 split at h
 ·
  rename_i hc;obtain ⟨hl,hx⟩:=hc;have HR:=Zk hr0;have HC:=Zk hc0;have HX:=Zk hx;have L0:=Zk (show (Qd.cs x).size=10 by rw [Qd.cs_size];exact hx);have HF:=Zk h;have hu:=Tryz.underlying26;clear hr0 hx h hc0;go_enter Tryz.func327,Tryz.ntmps327;obtain ⟨Z,hZ⟩: ∃ Z:Array Value,Z= #[Value.int IntKind.i64 0,Value.int IntKind.i64 0,Value.int IntKind.i64 0,Value.int IntKind.i64 0,Value.int IntKind.i64 0,Value.int IntKind.i64 0,Value.int IntKind.i64 0,Value.int IntKind.i64 0,Value.int IntKind.i64 0,Value.int IntKind.i64 0] :=⟨_,rfl⟩
  have HZ:=Zk hZ;have ZS:=Zk (show Z.size=10 by rw [hZ];rfl);clear hZ;go_wp2_with (first|(go_at_call 244;refine (Qef.calls A0 c0 l0 _ _ (Kd.C_below HR.out (Qj (Qj (Qj (Below.refl _ _) _) _) _)) HC.out rfl).mono ?_;rintro e w1 ⟨rfl,hb⟩;rw [←HZ.out] at hb;have BW:=Zk (Qbp (Qj (Qj (Qj (Below.refl w.heap.size w) (.cells #[.slice A0 l0.length c0] 26)) (.cells (Qd.cs x) 139)) (.cells Z 139)) hb);have G2:=Zk (show w1.heap[w.heap.size]? =some (.cells #[.slice A0 l0.length c0] 26 (0,0)) from Qbg (Qci (Qci (Qe9 _ _) _) _) hb);have G3:=Zk (show w1.heap[w.heap.size+1]? =some (.cells (Qd.cs x) 139 (0,0)) from Qbg (Qci (heap_alloc2_new _ _ _) _) hb);have G4:=Zk (show w1.heap[w.heap.size+1+1]? =some (.cells Z 139 (0,0)) from Qbg (by have:=Qe9 ((w.alloc (.cells #[.slice A0 l0.length c0] 26)).alloc (.cells (Qd.cs x) 139)) (.cells Z 139);simpa using this) hb);clear hb))
  go_loopw [9] (fun v9 wr=> ∃ (j:Nat) (y:List Int),v9= .int .i64 (j:Int)∧j≤l0.length - 1∧Z0 (Qby.go l0 (l0.length - 1 - j) j y=some r)∧Z0 (y.length=10)∧Z0 (wr.heap[w.heap.size]? =some (.cells #[.slice A0 l0.length c0] 26 (0,0)))∧Z0 (wr.heap[w.heap.size+1]? =some (.cells (Qd.cs y) 139 (0,0)))∧Z0 (wr.heap[w.heap.size+1+1]? =some (.cells Z 139 (0,0)))∧Z0 (Below w.heap.size w wr)) (fun v9 _=>(l0.length - 1) - (intOf v9).toNat)
  case atStart=>exact ⟨0,x,rfl,Nat.zero_le _,HF,HX,G2,G3,G4,BW⟩
  case round=>
   clear HF HX G2 G3 G4 BW L0;obtain ⟨j,y,rfl,hj,HG,HY,G2,G3,G4,HB⟩:=hrel;have YS:=Zk (show (Qd.cs y).size=10 by rw [Qd.cs_size];exact HY.out);have z2:=Qcs G2.out 0
   by_cases hlt:j<l0.length - 1
   ·
    have hG:=HG.out;obtain ⟨d,hd⟩: ∃ d,l0.length - 1 - j=d+1:=⟨l0.length - 1 - j - 1,by omega⟩
    rw [hd,Qby.go] at hG;obtain ⟨y1,hy1,hG⟩:=Option.bind_eq_some_iff.mp hG;have HY1:=Zk hy1;have HG1:=Zk (show Qby.go l0 (l0.length - 1 - (j+1)) (j+1) y1=some r by rw [show l0.length - 1 - (j+1)=d by omega];exact hG);clear hy1 hG hd HG;have q1:(j:Int)<(l0.length:Int) - 1:=by omega
    go_wp2_with (first|(with_reducible refine wpList_load_row rfl 139 (.tmp 3) rfl (w.heap.size+1) rfl 139 (Qd.cs y) (0,0) _ G3.out Tryz.underlying139 rfl (Qd.info_of YS.out) ?_)|(go_at_call 348;refine (Qc1.calls A0 c0 l0 y j y1 _ (Kd.C_below HR.out HB.out) HY1.out).mono ?_;rintro e w2 ⟨rfl,hy,hb⟩;have HY2:=Zk hy;have B2:=Zk (Qbp HB.out hb);have YS2:=Zk (show (Qd.cs y1).size=10 by rw [Qd.cs_size];exact hy);have OL:=Zk (show (Qd.cs y).size=(Qd.cs y1).size by rw [YS.out,YS2.out]);have K2:=Zk (Qbg G2.out hb);have K3:=Zk (Qbg G3.out hb);have K4:=Zk (Qbg G4.out hb);clear hy hb)|(with_reducible refine wpList_store_row rfl 139 (.tmp 3) (.tmp 15) rfl (w.heap.size+1) (Qd.cs y1) rfl rfl 139 (Qd.cs y) K3.out (Qd.info_of YS2.out) OL.out (Qd.cs_one y1) ?_));go_roundw
    case rel=>exact ⟨j+1,y1,by go_num,by omega,HG1,HY2,⟨(setRow_other _ _ _ _ (by omega)).trans K2.out⟩,⟨setRow_heap _ _ _ _ _ _ K3.out⟩,⟨(setRow_other _ _ _ _ (by omega)).trans K4.out⟩,⟨below_setRow B2.out (by omega) _⟩⟩
    case measure=>simp [intOf];omega
   ·
    have hG:=HG.out;rw [show l0.length - 1 - j=0 by omega,Qby.go] at hG;have hE:=Option.some.inj hG;subst hE;clear hG;have q1: ¬ ((j:Int)<(l0.length:Int) - 1):=by omega
    have OL:=Zk (show Z.size=(Qd.cs y).size by rw [ZS.out,YS.out]);clear HG;go_wp2_with (first|(with_reducible refine wpList_load_row rfl 139 (.tmp 3) rfl (w.heap.size+1) rfl 139 (Qd.cs y) (0,0) _ G3.out Tryz.underlying139 rfl (Qd.info_of YS.out) ?_)|(with_reducible refine wpList_store_row rfl 139 (.tmp 4) (.tmp 17) rfl (w.heap.size+1+1) (Qd.cs y) rfl rfl 139 Z G4.out (Qd.info_of YS.out) OL.out (Qd.cs_one y) ?_));refine bodyPost_ret (v:= .agg (Qd.cs y)) (results_cell_row rfl _ _ (w.heap.size+1+1) 139 (Qd.cs y) (0,0) _ rfl (setRow_heap _ _ Z _ _ _ G4.out) Tryz.underlying139 rfl (Qd.info_of YS.out)) rfl ⟨rfl,HY.out,?_⟩;exact below_setRow HB.out (by omega) _
 ·
  cases h
theorem Qc1.len {l0 x:List Int} {j:Nat} {y:List Int} (h:Qc1.f l0 x j=some y):y.length=10:=by
 unfold Qc1.f at h
 split at h
 ·
  rename_i hc;obtain ⟨h1,_,h⟩:=Option.bind_eq_some_iff.mp h
  split at h
  ·
   cases h;exact hc.1
  ·
   obtain ⟨h2,_,h⟩:=Option.bind_eq_some_iff.mp h
   split at h
   ·
    cases h;exact hc.1
   ·
    cases h;simp [hc.1]
 ·
  cases h
theorem Qby.go_len {l0:List Int} : ∀ (d j:Nat) (x y:List Int),x.length=10→Qby.go l0 d j x=some y→y.length=10
 |0,_,x,y,hx,h=>by rw [Qby.go] at h;cases h;exact hx
 |d+1,j,x,y,hx,h=>by
  rw [Qby.go] at h;obtain ⟨z,hz,h⟩:=Option.bind_eq_some_iff.mp h;exact Qby.go_len d (j+1) z y (Qc1.len hz) h
theorem Qby.len {l0 x y:List Int} (h:Qby.f l0 x=some y):y.length=10:=by
 unfold Qby.f at h
 split at h
 ·
  rename_i hc;exact Qby.go_len _ _ _ _ hc.2 h
 ·
  cases h
def Qcx.lines:List (List Int)→List (List Int)→Option (List (List Int))
 | [],acc=>some acc
 |w::ws,acc=>(Qd.f w).bind fun x=>Qcx.lines ws (acc++ [x])
def Qcx.f (k:Nat) (l0:List Int):Option (List (List (List Int)) × Bool):=(Qt.f k l0).bind fun p=>if p.2=true then (if p.1.length<1759218604441 then (Qcx.lines p.1 []).bind fun ls=>if ls.length≤p.1.length then (Qc.f k (Qby.f l0) ls).bind fun c=>some (c,true) else none else none) else some ([],false)
theorem Qcx.mono: ∀ a0 k,LeO (Qcx.f k a0) (Qcx.f (k+1) a0):=by
 intro l0 k;unfold Qcx.f;exact LeO.bind (Qt.mono _ _) fun p=>LeO.ite (LeO.ite (LeO.bind (LeO.refl _) fun ls=>LeO.ite (LeO.bind (Qc.mono (fun x=>LeO.refl _) k ls) fun c=>LeO.refl _) (LeO.refl _)) (LeO.refl _)) (LeO.refl _)
theorem Qcx.lit (A0:Option Addr) (c0:Nat) (l0:List Int) (x y:List Int) (w:World) (hr0:Kd.C (Kd.int .i64) w A0 l0.length l0) (hc0:l0.length≤c0) (h:Qby.f l0 x=some y):
 Qc.Fvb Tryz.prog 327 #[.agg #[.slice A0 l0.length c0]] #[] (.agg (Qd.cs x)) (.agg (Qd.cs y)) w:=by
 intro W hb;show Calls Tryz.prog 327 #[.agg #[.slice A0 l0.length c0], .agg (Qd.cs x)] W _
 exact (Qby.calls A0 c0 l0 x y W (Kd.C_below hr0 hb) hc0 h).mono fun e w' h=>⟨h.1,h.2.2⟩
open Go.Proofs.YtkgngggppcmpfaaGreat.X in
set_option maxHeartbeats 1600000 in
set_option maxRecDepth 100000 in
theorem Qcx.calls (k:Nat) (A0:Option Addr) (c0:Nat) (l0:List Int) (r1:List (List (List Int))) (r2:Bool) (w:World) (hr0:Kd.C (Kd.int .i64) w A0 l0.length l0) (hc0:l0.length≤c0) (h:Qcx.f k l0=some (r1,r2)):
 Calls Tryz.prog 266 #[.agg #[.slice A0 l0.length c0]] w fun e w'=> ∃ v0_:Value,e= .returned (.tuple #[v0_, .bool r2])∧Kd.S (Kd.slice 139 Qd.kd) 156 w' w.heap.size (fun _=>True) v0_ r1∧Below w.heap.size w w':=by
 unfold Qcx.f at h;obtain ⟨⟨ws,b⟩,hfew,h⟩:=Option.bind_eq_some_iff.mp h;have HR:=Zk hr0;have HC:=Zk hc0;have HW:=Zk hfew;have hu:=Tryz.underlying26;clear hr0 hc0 hfew;dsimp only at h
 by_cases hb:b=true
 ·
  rw [if_pos hb] at h;subst hb
  split at h
  ·
   rename_i hwl;obtain ⟨ls,hls,h⟩:=Option.bind_eq_some_iff.mp h
   split at h
   ·
    rename_i hll;obtain ⟨c,hcy,h⟩:=Option.bind_eq_some_iff.mp h;simp only [Option.some.injEq,Prod.mk.injEq] at h;obtain ⟨rfl,rfl⟩:=h;have HLS:=Zk hls;have HWL:=Zk hwl;have HLL:=Zk hll;have HCY:=Zk hcy;clear hls hwl hll hcy;go_enter Tryz.func266,Tryz.ntmps266;go_wp2_with (first|(go_at_call 315;refine (Qt.calls k _ _ l0 ws true _ (Kd.C_below HR.out (Qj (Below.refl _ _) _)) HC.out HW.out).mono ?_;rintro e w1 ⟨vw,rfl,hs,hb⟩;obtain ⟨Aw,cw,rfl,hwc,hCw⟩:=Kd.R_reads (Kd.S_R hs);have CW:=Zk hCw;have B1:=Zk (Qbp (Qj (Below.refl w.heap.size w) (.cells #[.slice A0 l0.length c0] 26)) hb);have z1:w1.cell? ⟨w.heap.size,0,none⟩=some (.slice A0 l0.length c0):=Qcb hb (by simp);have Z1:=Zk z1;clear hs hwc hCw hb z1)|((with_reducible refine Qu (N:=16) rfl ?_);refine Kd.R_lit Qd.kd (w0:=w1) w1.heap.size 139 ?hg (N:=16) ?hd (xs:=([] :List (List Int))) (inner:= []) (ok:=fun _=>True) (okp:=fun _=>True) ?hr ?hp (fun _ hk=>hk) trivial (Below.refl _ _) (Nat.le_refl _) (by simp) ?_;(case hd=>rfl);(case hg=>rfl);(case hr=>first|(go_simp;done)|(go_simp;rfl));(case hp=>exact (Reps.none _ _));intro v16 w2 ho hb hg_ hnew_;have HO:=Zk ho;have HB:=Zk hb;clear ho hb hg_ hnew_))
    go_loopw [6,19] (fun v6 v19 wr=> ∃ (q:Nat) (acc:List (List Int)),v19= .int .i64 (q:Int)∧q≤ws.length∧Z0 (Qcx.lines (ws.drop q) acc=some ls)∧Z0 (acc.length≤q)∧Z0 (Kd.R Qd.kd 139 wr w1.heap.size (fun _=>True) v6 acc)∧Z0 (Below w1.heap.size w1 wr)) (fun _ v19 _=>ws.length - (intOf v19).toNat)
    case atStart=>exact ⟨0,[],rfl,Nat.zero_le _,⟨by rw [List.drop_zero];exact HLS.out⟩,⟨Nat.le_refl _⟩,HO,HB⟩
    case round=>
     clear HO HB HLS;obtain ⟨q,acc,rfl,hq,HG,HA,HO,HB2⟩:=hrel;have HB:=Zk (Qbp B1.out HB2.out);have e2:wrap64 ((q:Int)+1)=((q+1:Nat):Int):=by have:=HWL.out;unfold wrap64;omega
     have CW3:=Zk (Kd.C_below CW.out HB2.out);have z3:wr.cell? ⟨w.heap.size,0,none⟩=some (.slice A0 l0.length c0):=(HB2.out.cell (World.block_lt_of_cell? w1 _ Z1.out)).trans Z1.out
     by_cases hlt:q<ws.length
     ·
      have hG:=HG.out;rw [List.drop_eq_getElem_cons hlt,Qcx.lines] at hG;obtain ⟨x,hx,hG⟩:=Option.bind_eq_some_iff.mp hG;obtain ⟨ad,A1,c1,e1,hcell,hlc,hC1⟩:=row_at CW3.out q hlt;cases e1;have e3:ws.getD q [] =ws[q] :=by simp [List.getD_eq_getElem?_getD,hlt]
      rw [e3] at hcell hC1;have HG2:=Zk hG;have HX:=Zk hx;have C1:=Zk hC1;have HLT:=Zk hlt;have GL:=Zk (show (ws[q] :List Int)=ws[q] from rfl);obtain ⟨row,hrow⟩: ∃ row,row=ws[q] :=⟨_,rfl⟩
      rw [←hrow] at hcell HX C1;clear hG hx hC1 hlc e3 hrow GL;have p1:0≤((q:Nat):Int):=by omega
      have q1:((q:Nat):Int)<(ws.length:Int):=by omega
      go_wp2_with (first|(go_at_call 325;refine (Qd.calls A1 c1 row x _ C1.out HX.out).mono ?_;rintro e w4 ⟨rfl,hxl,hb⟩;have XL:=Zk hxl;have B4:=Zk (Qbp HB.out hb);have B42:=Zk (Qbp HB2.out hb);have HO4:=Zk (Kd.R_below HO.out hb);clear hxl hb)|((with_reducible refine Qc.build1 rfl (.tmp 25) rfl x rfl XL.out ?_))|((with_reducible refine Qb1 (b:= .append) (xs:= #[.tmp 23, .tmp 26]) rfl ?_);at_builtin;refine Kd.R_append Qd.kd (w0:=w1) w1.heap.size rfl (.tmp 23) (.tmp 26) 156 139 _ 80 rfl Tryz.underlying156 Qc.infoL rfl (by decide) (by omega) u6 acc x (x.map (Value.int .i64)) (fun _=>True) (fun _=>False) rfl rfl ?aP (fun _ hk=>hk.elim) ?aF ?aO ?aB ?aS ?aL ?_;(case aP=>exact ⟨XL.out,rfl⟩);(case aF=>exact fun _ _=>trivial);(case aO=>exact HO4.out);(case aB=>exact B42.out);(case aS=>exact B42.out.size);(case aL=>have:=HA.out;have:=HWL.out;have:=HLT.out;omega);intro v27 w5 ho hb hg hat;have HO5:=Zk ho;have B5:=Zk hb;clear ho hb hg hat));go_roundw
      case rel=>exact ⟨q+1,acc++ [x],by first|rfl|go_num,by have:=HLT.out;omega,HG2,⟨by have:=HA.out;rw [List.length_append];simp;omega⟩,HO5,B5⟩
      case measure=>(try simp only [e2]);have:=HLT.out;exact (Nat.sub_lt_sub_left (by omega) (Nat.lt_succ_self q):ws.length - (q+1)<ws.length - q)
     ·
      have hG:=HG.out;rw [List.drop_of_length_le (by omega),Qcx.lines] at hG;cases hG;obtain ⟨Al,cl,eu,hlc,hCl⟩:=Kd.R_reads HO.out;subst eu;have CL:=Zk hCl;clear hlc hCl;go_wp2_with (first|(go_at_call 326;refine (Qc.calls k Al cl ls 327 #[.agg #[.slice A0 l0.length c0]] #[] (Qby.f l0) c _ (Qet Tryz.func327 (by kernel_rfl) rfl) CL.out (by have:=HLL.out;have:=HWL.out;omega) (fun x y h=>Qby.len h) (fun x y h=>Qcx.lit A0 c0 l0 x y _ (Kd.C_below HR.out HB.out) HC.out h) HCY.out).mono ?_;rintro e w6 ⟨v6,rfl,hs,hb⟩;have HS:=Zk (Kd.S_lower hs HB.out.size);have B6:=Zk (Qbp HB.out hb);clear hs hb))
      go_ret2
      exact ⟨_,rfl,HS.out,B6.out⟩
   ·
    cases h
  ·
   cases h
 ·
  rw [if_neg hb] at h;have hb:b=false:=by simpa using hb
  subst hb;simp only [Option.some.injEq,Prod.mk.injEq] at h;obtain ⟨rfl,rfl⟩:=h;go_enter Tryz.func266,Tryz.ntmps266;go_wp2_with (first|(go_at_call 315;refine (Qt.calls k _ _ l0 ws false _ (Kd.C_below HR.out (Qj (Below.refl _ _) _)) HC.out HW.out).mono ?_;rintro e w1 ⟨vw,rfl,hs,hb⟩;have B1:=Zk (Qbp (Qj (Below.refl w.heap.size w) (.cells #[.slice A0 l0.length c0] 26)) hb);clear hs hb))
  go_ret2
  exact ⟨_,rfl,Kd.S_nil _ _ _ _ _,B1.out⟩
def Qec.f (l0:List (List (List Int))):Option (List Int):=if l0.length<17592186044416 then some (l0.map fun l=>(l.length:Int)) else none
open Go.Proofs.YtkgngggppcmpfaaGreat.X in
theorem Qec.row_at {w:World} {A:Option Addr} {n:Nat} {xs:List (List (List Int))} (h:Kd.C (Kd.slice 139 Qd.kd) w A n xs) (i:Nat) (hi:i<n) (hx:i<xs.length):
 ∃ ad A0 c0,A=some ad∧w.cell? (ad.add i)=some (.slice A0 xs[i].length c0):=by
 obtain ⟨ad,c,ea,_,hK,hc0⟩:=Kd.C_get h ([] :List (List Int)) (i:Int) (by omega) (by omega);obtain ⟨A0,c0,rfl,l0,g0⟩:=hK;rw [Int.toNat_natCast] at hc0 l0 g0;have e:xs.getD i [] =xs[i] :=by simp [List.getD_eq_getElem?_getD,hx]
 rw [e] at hc0;have hq:=hc0 0 _ rfl;have e1:i*(Kd.slice 139 Qd.kd).sz+0=i:=by show i*1+0=i;omega
 rw [e1] at hq;exact ⟨ad,A0,c0,ea,hq⟩
open Go.Proofs.YtkgngggppcmpfaaGreat.X in
set_option maxHeartbeats 1600000 in
set_option maxRecDepth 100000 in
theorem Qec.calls (A0:Option Addr) (c0:Nat) (l0:List (List (List Int))) (r:List Int) (w:World) (hr0:Kd.C (Kd.slice 139 Qd.kd) w A0 l0.length l0) (h:Qec.f l0=some r):
 Calls Tryz.prog 267 #[.slice A0 l0.length c0] w fun e w'=> ∃ v0_:Value,e= .returned v0_∧Kd.R (Kd.int .i64) 3 w' w.heap.size (fun _=>True) v0_ r∧Below w.heap.size w w':=by
 unfold Qec.f at h
 split at h
 ·
  rename_i hl;have HE:=Zk (Option.some.inj h);have HR:=Zk hr0;have HL:=Zk hl;clear hr0 h hl;go_enter Tryz.func267,Tryz.ntmps267;go_wp2_with (first|((with_reducible refine Qu (N:=6) rfl ?_);refine Kd.R_lit (Kd.int .i64) w.heap.size 3 ?hg (N:=6) ?hd (xs:=([] :List Int)) (inner:= []) (ok:=fun _=>True) (okp:=fun _=>True) ?hr ?hp (fun _ hk=>hk) trivial (Below.refl _ _) (Nat.le_refl _) (by simp) ?_;(case hd=>rfl);(case hg=>rfl);(case hr=>first|(go_simp;done)|(go_simp;rfl));(case hp=>exact (Reps.none _ _));intro v6 w2 ho hb hg_ hnew_;have HO:=Zk ho;have HB:=Zk hb;clear ho hb hg_ hnew_))
  go_loopw [3,9] (fun v3 v9 wr=> ∃ q:Nat,v9= .int .i64 (q:Int)∧q≤l0.length∧Z0 (Kd.R (Kd.int .i64) 3 wr w.heap.size (fun _=>True) v3 ((l0.take q).map fun l=>(l.length:Int)))∧Z0 (Below w.heap.size w wr)) (fun _ v9 _=>l0.length - (intOf v9).toNat)
  case atStart=>exact ⟨0,rfl,Nat.zero_le _,HO,HB⟩
  case round=>
   clear HO HB;obtain ⟨q,rfl,hq,HO,HB⟩:=hrel;have e2:wrap64 ((q:Int)+1)=((q+1:Nat):Int):=by have:=HL.out;unfold wrap64;omega
   by_cases hlt:q<l0.length
   ·
    obtain ⟨ad,A1,c1,e1,hx⟩:=Qec.row_at (Kd.C_below HR.out HB.out) q hlt hlt;cases e1;have HT:=Zk (show ((l0.take q).map fun l=>(l.length:Int))++ [(l0[q].length:Int)] =(l0.take (q+1)).map fun l=>(l.length:Int) by rw [List.take_succ_eq_append_getElem hlt,List.map_append];rfl);have HLT:=Zk (show ((l0.take q).map fun l=>(l.length:Int)).length≤q by rw [List.length_map,List.length_take];omega);obtain ⟨n,hn⟩: ∃ n,n=l0[q].length:=⟨_,rfl⟩
    rw [←hn] at hx;rw [←hn] at HT;clear hn;obtain ⟨y,hy⟩: ∃ y,y=(l0.take q).map fun l=>(l.length:Int):=⟨_,rfl⟩
    rw [←hy] at HO HT HLT;clear hy;have p1:0≤((q:Nat):Int):=by omega
    have q1:((q:Nat):Int)<(l0.length:Int):=by omega
    go_wp2_with (first|((with_reducible refine Qb1 (b:= .append) (xs:= #[.tmp 13, .tmp 16]) rfl ?_);at_builtin;refine Kd.R_append (Kd.int .i64) (w0:=w) w.heap.size rfl (.tmp 13) (.tmp 16) 24 3 (.int .i64 0) 8 rfl Tryz.underlying24 Qdq rfl (by decide) (by omega) u3 y (n:Int) [.int .i64 (n:Int)] (fun _=>True) (fun _=>False) rfl rfl ?aP (fun _ hk=>hk.elim) ?aF ?aO ?aB ?aS ?aL ?_;(case aP=>exact rfl);(case aB=>exact HB.out);(case aF=>exact (fun _ _=>trivial));(case aO=>exact HO.out);(case aS=>exact HB.out.size);(case aL=>have:=HL.out;have:=HLT.out;omega);intro v17 w8 ho hb hg hat;rw [HT.out] at ho;have HO8:=Zk ho;have HB8:=Zk hb;clear ho hb hg hat));go_roundw
    case rel=>exact ⟨q+1,by first|rfl|go_num,by omega,HO8,HB8⟩
    case measure=>(try simp only [e2]);exact (Nat.sub_lt_sub_left (by omega) (Nat.lt_succ_self q):l0.length - (q+1)<l0.length - q)
   ·
    have HO2:=Zk (show Kd.R (Kd.int .i64) 3 wr w.heap.size (fun _=>True) u3 r by rw [←HE.out];have:=HO.out;rw [List.take_of_length_le (by omega)] at this;exact this);go_wp2
    go_ret
    exact ⟨_,rfl,HO2.out,HB.out⟩
 ·
  cases h
def Qbo.f (k:Nat) (a0 a1:Int):Option (List Int):=(Qco.f k a0 a1).bind fun l=>(Qcx.f k l).bind fun p=>Qec.f p.1
theorem Qbo.mono: ∀ a0 a1 k,LeO (Qbo.f k a0 a1) (Qbo.f (k+1) a0 a1):=fun a0 a1 k=>LeO.bind (Qco.mono _ _ _) fun l=>LeO.bind (Qcx.mono _ _) fun p=>LeO.refl _
open Go.Proofs.YtkgngggppcmpfaaGreat.X in
set_option maxHeartbeats 1600000 in
set_option maxRecDepth 100000 in
theorem Qbo.calls (k:Nat) (a0:Int) (a1:Int) (r:List Int) (w:World) (h:Qbo.f k a0 a1=some r):
 Calls Tryz.prog 274 #[.int .i64 a0, .int .i64 a1] w fun e w'=> ∃ v0_:Value,e= .returned (v0_)∧Kd.R (Kd.int .i64) 3 w' w.heap.size (fun _=>True) v0_ r∧Below w.heap.size w w':=by
 unfold Qbo.f at h;obtain ⟨l,hl,h⟩:=Option.bind_eq_some_iff.mp h;obtain ⟨⟨c,b⟩,hc,h⟩:=Option.bind_eq_some_iff.mp h;have HL:=Zk hl;have HC:=Zk hc;have HF:=Zk h;clear hl hc h;go_enter Tryz.func274,Tryz.ntmps274;go_wp2_with (first|(go_at_call 229;refine (Qco.calls k a0 a1 l _ HL.out).mono ?_;rintro e w1 ⟨v,rfl,hr,hb⟩;obtain ⟨A1,c1,rfl,hlc,hC1⟩:=Kd.R_reads hr;have C1:=Zk hC1;have LC:=Zk hlc;have B1:=Zk hb;clear hr hb hlc hC1)|(go_at_call 266;refine (Qcx.calls k A1 c1 l c b _ C1.out LC.out HC.out).mono ?_;rintro e w2 ⟨v2,rfl,hs,hb⟩;obtain ⟨A2,c2,rfl,_,hC2⟩:=Kd.R_reads (Kd.S_R hs);have C2:=Zk hC2;have B2:=Zk (Qbp B1.out hb);clear hs hb hC2)|(go_at_call 267;refine (Qec.calls A2 c2 c r _ C2.out HF.out).mono ?_;rintro e w3 ⟨v3,rfl,hr,hb⟩;have R3:=Zk (Kd.R_lower hr B2.out.size);have B3:=Zk (Qbp B2.out hb);clear hr hb))
 go_ret
 exact ⟨_,rfl,R3.out,B3.out⟩
end Go.Proofs.YtkgngggppcmpfaaGreat.L
end
section
namespace Go.Proofs.YtkgngggppcmpfaaGreat.L
open Go.RowKit Go.Proofs.YtkgngggppcmpfaaGreatW.PrintWords Go.Proofs.YtkgngggppcmpfaaGreatW.PrintLast Go.Proofs.YtkgngggppcmpfaaGreatW.PrintMore Go.Proofs.YtkgngggppcmpfaaGreat.X
attribute [local go_sem] Qy Q0 Qbb Qbc Qp Qq Qz Q1
set_option linter.unusedVariables false
set_option linter.unusedSimpArgs false
def Qcc.f (k:Nat) (a0:Int) (a1:Int):Option (List Int × Bool):=(Qdm.f a0 a1 10).bind fun t442=>(if t442=true then ((Qbo.f k a0 a1).bind fun t443=>((Qbx.f k t443 (wrap64 (a0*a1))).bind fun t446=>(some (t446,true)))) else (some (([] :List Int),false)))
theorem Qcc.mono: ∀ a0 a1 k,LeO (Qcc.f k a0 a1) (Qcc.f (k+1) a0 a1):=by
 intro a0 a1 k;unfold Qcc.f
 repeat' (with_reducible first|apply Qbo.mono|apply Qbx.mono|exact LeO.refl _|exact LeO.none _|refine LeO.ite ?_ ?_|refine LeO.bind ?_ (fun _=> ?_))
set_option maxHeartbeats 8000000 in
set_option maxRecDepth 100000 in
theorem Qcc.calls (k:Nat) (a0:Int) (a1:Int) (r1:List Int) (r2:Bool) (w:World) (h:Qcc.f k a0 a1=some (r1,r2)):
 Calls Tryz.prog 135 #[.int .i64 a0, .int .i64 a1] w fun e w'=> ∃ v0_:Value,e= .returned (.tuple #[v0_, .bool r2])∧Kd.R (Kd.int .i64) 3 w' w.heap.size (fun _=>True) v0_ r1∧Below w.heap.size w w':=by
 have HB:=Zk (Below.refl w.heap.size w);have H:((Qdm.f a0 a1 10).bind fun t442=>(if t442=true then ((Qbo.f k a0 a1).bind fun t443=>((Qbx.f k t443 (wrap64 (a0*a1))).bind fun t446=>(some (t446,true)))) else (some (([] :List Int),false))))=some (r1,r2):=h;clear h;obtain ⟨t442,A3,H⟩:=bs H;(try dsimp only at H)
 by_cases c4:t442=true
 ·
  subst c4;rw [if_pos rfl] at H;obtain ⟨t443,A5,H⟩:=bs H;(try dsimp only at H)
  obtain ⟨t446,A6,H⟩:=bs H;(try dsimp only at H)
  simp only [Option.some.injEq,Prod.mk.injEq] at H;obtain ⟨rfl,rfl⟩:=H;go_enter Tryz.func135,Tryz.ntmps135;go_wp2_with (first|(refine gA (some 8) Tryz.func206 #[.int .i64 a0, .int .i64 a1, .int .i64 10] ?_;(with_reducible refine (Qdm.calls a0 a1 10 true _ A3.out).mono ?_);rintro e w' ⟨rfl,⟨nd,rfl⟩⟩;refine ⟨_,rfl,?_⟩)|(refine gA (some 12) Tryz.func274 #[.int .i64 a0, .int .i64 a1] ?_;(with_reducible refine (Qbo.calls k a0 a1 t443 _ A5.out).mono ?_);rintro e w7 ⟨v444,rfl,ho0,hb⟩;refine ⟨_,rfl,?_⟩;have HO445:=Zk (Kd.R_lower ho0 (Qh (uB HB)));replace HB:=Zk (Qb (uB HB) hb);(try clear hb ho0);obtain ⟨Ao8,co8,eo8⟩:=Kd.R_slice HO445.out;subst eo8)|(refine gA (some 16) Tryz.func207 #[.slice Ao8 t443.length co8, .int .i64 (wrap64 (a0*a1))] ?_;(with_reducible refine (Qbx.calls k _ _ t443 (wrap64 (a0*a1)) t446 _ (uE HO445) ?side2 A6.out).mono ?_);(case side2=>exact (Kd.R_reads' HO445.out).2.1);rintro e w9 ⟨v447,rfl,ho0,hb⟩;refine ⟨_,rfl,?_⟩;have HO448:=Zk (Kd.R_lower (Kd.R_new' ho0 (Kd.R_lt (uR HO445))) (Qh (uB HB)));replace HO445:=Zk (Kd.R_elder' (uR HO445) (Kd.R_base ho0) hb);replace HB:=Zk (Qb (uB HB) hb);(try clear hb ho0)))
  go_ret2
  exact ⟨_,by first|rfl|(simp [Qe,Qf] <;>rfl)|(simp [*,Qe,Qf] <;>rfl),Kd.R_mono (uR HO448) (fun _ hk=>trivial),uB HB⟩
 ·
  replace c4:=Bool.eq_false_iff.mpr c4;subst c4;rw [if_neg (show ¬ (false=true) by decide)] at H;simp only [Option.some.injEq,Prod.mk.injEq] at H;obtain ⟨rfl,rfl⟩:=H;go_enter Tryz.func135,Tryz.ntmps135;go_wp2_with (first|(refine gA (some 8) Tryz.func206 #[.int .i64 a0, .int .i64 a1, .int .i64 10] ?_;(with_reducible refine (Qdm.calls a0 a1 10 false _ A3.out).mono ?_);rintro e w' ⟨rfl,⟨nd,rfl⟩⟩;refine ⟨_,rfl,?_⟩))
  go_ret2
  exact ⟨_,by first|rfl|(simp [Qe,Qf] <;>rfl)|(simp [*,Qe,Qf] <;>rfl),by first|exact Kd.R_nil _ _ _ _ _|exact Kd.N_nil _ _ _ _ _|exact Kd.V_nil _ _ _ _ _|exact Kd.Q_nil _ _ _ _ _|exact Kd.S_nil _ _ _ _ _,uB HB⟩
end Go.Proofs.YtkgngggppcmpfaaGreat.L
end
section
namespace Go.Proofs.YtkgngggppcmpfaaGreat.L
open Go.RowKit Go.Proofs.YtkgngggppcmpfaaGreatW.PrintWords Go.Proofs.YtkgngggppcmpfaaGreatW.PrintLast Go.Proofs.YtkgngggppcmpfaaGreatW.PrintMore
attribute [local go_sem] Qy Q0 Qbb Qbc Qp Qq Qz Q1
set_option linter.unusedVariables false
set_option linter.unusedSimpArgs false
def Qbz.f (a0:Int) (a1:Int) (a2:Int):Option (Bool):=if a0 ≥ a1 then (some (decide (a0≤a2))) else (some false)
set_option maxHeartbeats 8000000 in
set_option maxRecDepth 100000 in
theorem Qbz.calls (a0:Int) (a1:Int) (a2:Int) (r:Bool) (w:World) (h:Qbz.f a0 a1 a2=some r):
 Calls Tryz.prog 192 #[.int .i64 a0, .int .i64 a1, .int .i64 a2] w fun e w'=>e= .returned (.bool r)∧Drawn0 w w':=by
 have H:(if a0 ≥ a1 then (some (decide (a0≤a2))) else (some false))=some r:=h;clear h
 by_cases c4:a0 ≥ a1
 ·
  rw [if_pos c4] at H;have c4b0:=decide_eq_true c4;clear c4;obtain rfl:=Option.some.inj H;go_enter Tryz.func192,Tryz.ntmps192;go_wp2
  go_ret
  exact ⟨by first|rfl|(simp;done)|(simp [*];done),by repeat (first|exact Drawn0.refl _|apply Drawn0.step)⟩
 ·
  rw [if_neg c4] at H;have c4b0:=decide_eq_false c4;clear c4;obtain rfl:=Option.some.inj H;go_enter Tryz.func192,Tryz.ntmps192;go_wp2
  go_ret
  exact ⟨by first|rfl|(simp;done)|(simp [*];done),by repeat (first|exact Drawn0.refl _|apply Drawn0.step)⟩
end Go.Proofs.YtkgngggppcmpfaaGreat.L
end
section
namespace Go.Proofs.YtkgngggppcmpfaaGreat.L
open Go.RowKit Go.Proofs.YtkgngggppcmpfaaGreatW.PrintWords Go.Proofs.YtkgngggppcmpfaaGreatW.PrintLast Go.Proofs.YtkgngggppcmpfaaGreatW.PrintMore Go.Proofs.YtkgngggppcmpfaaGreat.X
attribute [local go_sem] Qy Q0 Qbb Qbc Qp Qq Qz Q1
set_option linter.unusedVariables false
set_option linter.unusedSimpArgs false
def Qcu.f (a0:Int) (a1:Int):Option (Bool):=(Qbz.f a0 1 10).bind fun t449=>(if t449=true then ((Qbz.f a1 1 10).bind fun t450=>(if t450=true then (some (decide ((wrap64 (a0*a1))≤10))) else (some false))) else (some false))
set_option maxHeartbeats 8000000 in
set_option maxRecDepth 100000 in
theorem Qcu.calls (a0:Int) (a1:Int) (r:Bool) (w:World) (h:Qcu.f a0 a1=some r):
 Calls Tryz.prog 203 #[.int .i64 a0, .int .i64 a1] w fun e w'=>e= .returned (.bool r)∧Drawn0 w w':=by
 have H:((Qbz.f a0 1 10).bind fun t449=>(if t449=true then ((Qbz.f a1 1 10).bind fun t450=>(if t450=true then (some (decide ((wrap64 (a0*a1))≤10))) else (some false))) else (some false)))=some r:=h;clear h;obtain ⟨t449,A3,H⟩:=bs H;(try dsimp only at H)
 by_cases c4:t449=true
 ·
  subst c4;rw [if_pos rfl] at H;obtain ⟨t450,A5,H⟩:=bs H;(try dsimp only at H)
  by_cases c6:t450=true
  ·
   subst c6;rw [if_pos rfl] at H;obtain rfl:=Option.some.inj H;go_enter Tryz.func203,Tryz.ntmps203;go_wp2_with (first|(refine gA (some 6) Tryz.func192 #[.int .i64 a0, .int .i64 1, .int .i64 10] ?_;(with_reducible refine (Qbz.calls a0 1 10 true _ A3.out).mono ?_);rintro e w' ⟨rfl,⟨nd,rfl⟩⟩;refine ⟨_,rfl,?_⟩)|(go_at_call 192;(with_reducible refine (Qbz.calls a1 1 10 true _ A5.out).mono ?_);rintro e w' ⟨rfl,⟨nd,rfl⟩⟩))
   go_ret
   exact ⟨by first|rfl|(simp;done)|(simp [*];done),by repeat (first|exact Drawn0.refl _|apply Drawn0.step)⟩
  ·
   replace c6:=Bool.eq_false_iff.mpr c6;subst c6;rw [if_neg (show ¬ (false=true) by decide)] at H;obtain rfl:=Option.some.inj H;go_enter Tryz.func203,Tryz.ntmps203;go_wp2_with (first|(refine gA (some 6) Tryz.func192 #[.int .i64 a0, .int .i64 1, .int .i64 10] ?_;(with_reducible refine (Qbz.calls a0 1 10 true _ A3.out).mono ?_);rintro e w' ⟨rfl,⟨nd,rfl⟩⟩;refine ⟨_,rfl,?_⟩)|(go_at_call 192;(with_reducible refine (Qbz.calls a1 1 10 false _ A5.out).mono ?_);rintro e w' ⟨rfl,⟨nd,rfl⟩⟩))
   go_ret
   exact ⟨by first|rfl|(simp;done)|(simp [*];done),by repeat (first|exact Drawn0.refl _|apply Drawn0.step)⟩
 ·
  replace c4:=Bool.eq_false_iff.mpr c4;subst c4;rw [if_neg (show ¬ (false=true) by decide)] at H;obtain rfl:=Option.some.inj H;go_enter Tryz.func203,Tryz.ntmps203;go_wp2_with (first|(refine gA (some 6) Tryz.func192 #[.int .i64 a0, .int .i64 1, .int .i64 10] ?_;(with_reducible refine (Qbz.calls a0 1 10 false _ A3.out).mono ?_);rintro e w' ⟨rfl,⟨nd,rfl⟩⟩;refine ⟨_,rfl,?_⟩))
  go_ret
  exact ⟨by first|rfl|(simp;done)|(simp [*];done),by repeat (first|exact Drawn0.refl _|apply Drawn0.step)⟩
mutual
def Qbr.l0:Nat→Int→List (List Int)→Int→List Int→Option (List Int)
 |0,_,_,_,_=>none
 |k+1,x0,x1,x6,x456000=>if x6<x0 then (Qbr.l1 k x0 x1 x6 x1 (x1.length:Int) 0 x456000) else (some x456000)
def Qbr.l1:Nat→Int→List (List Int)→Int→List (List Int)→Int→Int→List Int→Option (List Int)
 |0,_,_,_,_,_,_,_=>none
 |k+1,x0,x1,x6,x17,x18,x19,x456000=>if x19<x18 then (if 0≤x19 then (if x19<(x17.length:Int) then (if 1<((Qo x17 x19).length:Int) then (if (rd (Qo x17 x19) 1)=x6 then (if 0≤x6 then (if x6<(x456000.length:Int) then (if 0<((Qo x17 x19).length:Int) then (if 0≤(rd (Qo x17 x19) 0) then (if (rd (Qo x17 x19) 0)<(x456000.length:Int) then (Qbr.l1 k x0 x1 x6 x17 x18 (wrap64 (x19+1)) (x456000.set (x6:Int).toNat (Go.bits .or .i64 (rd x456000 x6) (Go.bits .or .i64 (shl .i64 1 (rd (Qo x17 x19) 0)) (rd x456000 (rd (Qo x17 x19) 0)))))) else (none)) else (none)) else (none)) else (none)) else (none)) else (Qbr.l1 k x0 x1 x6 x17 x18 (wrap64 (x19+1)) x456000)) else (none)) else (none)) else (none)) else (Qbr.l0 k x0 x1 (wrap64 (x6+1)) x456000)
end
def Qbr.f (k:Nat) (a0:Int) (l1:List (List Int)):Option (List Int):=if 0≤a0 then (if (a0:Int).toNat≤35184372088832 then (Qbr.l0 k a0 l1 0 (List.replicate (a0:Int).toNat 0)) else (none)) else (none)
theorem Qbr.mono_l: ∀ k,(∀ y0 y1 y2 y3,LeO (Qbr.l0 k y0 y1 y2 y3) (Qbr.l0 (k+1) y0 y1 y2 y3))∧(∀ y0 y1 y2 y3 y4 y5 y6,LeO (Qbr.l1 k y0 y1 y2 y3 y4 y5 y6) (Qbr.l1 (k+1) y0 y1 y2 y3 y4 y5 y6))
 |0=>⟨fun _ _ _ _ r h=>by simp [Qbr.l0] at h,fun _ _ _ _ _ _ _ r h=>by simp [Qbr.l1] at h⟩
 |k+1=>by
  obtain ⟨ih0,ih1⟩:=Qbr.mono_l k;refine ⟨?_,?_⟩
  all_goals
   intros
   first|unfold Qbr.l0|unfold Qbr.l1
   repeat' (with_reducible first|apply ih0|apply ih1|exact LeO.refl _|exact LeO.none _|refine LeO.ite ?_ ?_|refine LeO.bind ?_ (fun _=> ?_))
theorem Qbr.mono: ∀ a0 a1 k,LeO (Qbr.f k a0 a1) (Qbr.f (k+1) a0 a1):=by
 intro a0 a1 k;obtain ⟨ih0,ih1⟩:=Qbr.mono_l k;unfold Qbr.f
 repeat' (with_reducible first|apply ih0|apply ih1|exact LeO.refl _|exact LeO.none _|refine LeO.ite ?_ ?_|refine LeO.bind ?_ (fun _=> ?_))
def Qbr.T9:Bool × List (List Nat × List Nat):=(true,[([],[]),([0],[0]),([],[]),([1,2],[1,2]),([3],[3]),([],[]),([5],[5]),([6],[6]),([7],[7]),([],[]),([9],[9]),([],[]),([11],[11]),([12],[12]),([10,13],[10,13]),([14],[14]),([8,15],[8,15]),([4,16],[4,16]),([1,2,0,1,2,3,4,5,6,7,8,9,10,11,12,13,14,15,16,17],[1,2]),([18,17,0,1,2,3,4,5,6,7,8,9,10,11,12,13,14,15,16,17],[17,18])])
def Qbr.B9:List Nat:= [0,1,0,7,15,0,32,96,224,0,512,0,2048,6144,15872,32256,65504,131071,262143,524287]
theorem Qbr.tab9:rtab .any (Qfz Tryz.f163 9)=Qbr.T9:=by kernel_rfl
theorem Qbr.bits9:Qen Qbr.T9.2 Qbr.B9=true:=by kernel_rfl
set_option maxHeartbeats 8000000 in
set_option maxRecDepth 100000 in
theorem Qbr.calls (k:Nat) (a0:Int) (A1:Option Addr) (c1:Nat) (l1:List (List Int)) (r:List Int) (w:World) (hr1:Kd.C (Kd.slice 3 (Kd.int .i64)) w A1 l1.length l1) (hc1:l1.length≤c1) (h:Qbr.f k a0 l1=some r):
 Calls Tryz.prog 163 #[.int .i64 a0, .slice A1 l1.length c1] w fun e w'=> ∃ v0_:Value,e= .returned (.agg #[v0_])∧Kd.R (Kd.int .i64) 3 w' w.heap.size (fun _=>True) v0_ r∧Below w.heap.size w w':=by
 have hu26:=Tryz.underlying26;have HR1:=Zk hr1;have HC1:=Zk hc1;clear hr1 hc1;have HB:=Zk (Below.refl w.heap.size w);have H:(if 0≤a0 then (if (a0:Int).toNat≤35184372088832 then (Qbr.l0 k a0 l1 0 (List.replicate (a0:Int).toNat 0)) else (none)) else (none))=some r:=h;clear h
 by_cases c3:0≤a0
 ·
  rw [if_pos c3] at H;have c3b0:=eq_true c3;have c3b1:=decide_eq_true c3;clear c3
  by_cases c4:(a0:Int).toNat≤35184372088832
  ·
   rw [if_pos c4] at H;have c4b0:=eq_true c4;have c4b1:=decide_eq_true c4;clear c4;obtain ⟨y452,hy452⟩: ∃ y_:List Int,y_=(List.replicate (a0:Int).toNat 0):=⟨_,rfl⟩
   replace H:(Qbr.l0 k a0 l1 0 y452)=some r:=by first|(rw [hy452];with_reducible exact H)|(have H2_:=(Option.bind_some _ _).symm.trans H;rw [hy452];with_reducible exact H2_)|(have H2_:=(Option.bind_some _ _).symm.trans H;with_reducible exact H2_)|with_reducible exact H|(rw [hy452];exact H)|exact H
   have Ny452:=Zk hy452;clear hy452;have H':=Zk H;clear H;go_enter Tryz.func163,Tryz.ntmps163;go_wp2_with (first|(refine bE (N:=4) (cs:= #[.slice none 0 0]) (t:=26) ?_;intro gb451 hg w5 hbox hb;have BK451:=Zk (hbox);have GW451:=Zk ((by rw [hg];exact (Qh (uB HB)):w.heap.size≤gb451));have GE451:=GW451;replace HB:=Zk (Qb (uB HB) hb);clear hb hbox hg)|((with_reducible refine Qu (N:=10) rfl ?_);refine Kd.R_make (Kd.int .i64) _ 3 rfl (N:=10) rfl 24 _ _ rfl a0 rfl rfl Tryz.underlying24 (.int .i64 0) 8 Qdq rfl (by decide) (by omega) 0 (ok:=fun _=>True) (okp:=fun _=>True) rfl (fun _ hk=>hk) trivial (of_decide_eq_true (by first|(with_reducible assumption)|assumption)) (Nat.le_trans (Nat.mul_le_mul_right _ (of_decide_eq_true (by first|(with_reducible assumption)|assumption):a0.toNat≤35184372088832)) (by omega)) (Below.refl _ _) (Nat.le_refl _) ?_;intro v453 w6 ho7 hb hg_ hnew_;clear hg_ hnew_;(first|rw [←Ny452.out] at ho7|(simp only [Int.reduceToNat] at ho7;rw [←Ny452.out] at ho7));have HO454:=Zk (Kd.R_lower ho7 (Qh (vB HB)));replace BK451:=Zk (Qbg (uK BK451) hb);replace HB:=Zk (Qb (vB HB) hb);clear hb ho7;obtain ⟨Ao8,co8,eo8⟩:=Kd.R_slice HO454.out;subst eo8)|(refine bE (N:=5) (cs:= #[.slice none 0 0]) (t:=26) ?_;intro gb455 hg w9 hbox hb;replace HO454:=Zk (Kd.R_below (uR HO454) hb);have BK455:=Zk (hbox);have GW455:=Zk ((by rw [hg];exact (Qh (vB HB)):w.heap.size≤gb455));have GE455:=GW455;replace HB:=Zk (Qb (vB HB) hb);have NB451_455:=Zk ((by rw [hg];exact Nat.ne_of_lt (Qd8 (uK BK451)):gb451≠gb455));have NB455_451:=Zk ((by rw [hg];exact Nat.ne_of_gt (Qd8 (uK BK451)):gb455≠gb451));replace BK451:=Zk (Qbg (uK BK451) hb);clear hb hbox hg;have hnb10:=NB455_451.out;have hnc10:=NB451_455.out;have hcz11_0:=bC BK455;have hfz11_0:=Q6 BK455.out 0))
   go_loopg [6] k (fun kq v6 w'=> ∃ (x6_1:Int) (x456000_1:List Int) (u456000:Value),v6= .int .i64 x6_1∧Z0 (Qbr.l0 kq a0 l1 x6_1 x456000_1=some r)∧Z0 (kq≤k)∧Z0 (Kd.R (Kd.int .i64) 3 w' w.heap.size (fun _=>True) u456000 x456000_1)∧Z0 (w'.heap[gb451]? =some (.cells #[(.slice none 0 0)] 26 (0,0)))∧Z0 (w'.heap[gb455]? =some (.cells #[u456000] 26 (0,0)))∧Z0 (Below w.heap.size w w'))
   case atStart=>exact ⟨(0),(y452),(.slice Ao8 y452.length co8),(by first|rfl|(simp;done)|(simp [*];done)),H',⟨Nat.le_refl _⟩,⟨by (with_reducible repeat (first|apply Kd.R_alloc|apply Kd.R_drewN|apply Kd.R_drew));exact Kd.R_mono (Kd.R_far (p:=⟨gb455,0,none⟩) (Kd.R_types HO454.out BK455.out (by decide)) (fun _ hk=>hk.2) (.slice Ao8 y452.length co8)) (fun _ hk=>trivial)⟩,⟨kF⟩,⟨bP⟩,⟨(vB HB)⟩⟩
   case round=>
    clear H'
    try clear c3b0 c3b1 c4b0 c4b1 hcz11_0 hfz11_0
    obtain ⟨x6_1,x456000_1,u456000,rfl,HA,HK1,HO_456000,BK451,BK455,HB⟩:=hrel;cases gk with
    |zero=>exact absurd HA.out (by simp [Qbr.l0])
    |succ k1=>
     have H:=HA.out;clear HA;simp only [Qbr.l0] at H
     by_cases c12:x6_1<a0
     ·
      rw [if_pos c12] at H;have c12b0:=decide_eq_true c12;clear c12;have H':=Zk H;clear H;go_wp2
      go_loopg [19] k1 (fun kq v19 w'=> ∃ (x19_2:Int) (x456000_2:List Int) (u456000:Value),v19= .int .i64 x19_2∧Z0 (Qbr.l1 kq a0 l1 x6_1 l1 (l1.length:Int) x19_2 x456000_2=some r)∧Z0 (kq≤k1)∧Z0 (Kd.R (Kd.int .i64) 3 w' w.heap.size (fun _=>True) u456000 x456000_2)∧Z0 (w'.heap[gb451]? =some (.cells #[(.slice none 0 0)] 26 (0,0)))∧Z0 (w'.heap[gb455]? =some (.cells #[u456000] 26 (0,0)))∧Z0 (Below w.heap.size w w'))
      case atStart=>exact ⟨(0),(x456000_1),(u456000),(by first|rfl|(simp;done)|(simp [*];done)),H',⟨Nat.le_refl _⟩,⟨uR HO_456000⟩,⟨uK BK451⟩,⟨uK BK455⟩,⟨(vB HB)⟩⟩
      case round=>
       clear H'
       try clear c12b0
       obtain ⟨x19_2,x456000_2,u456000,rfl,HA,HK2,HO_456000,BK451,BK455,HB⟩:=hrel;cases gk with
       |zero=>exact absurd HA.out (by simp [Qbr.l1])
       |succ k2=>
        have H:=HA.out;clear HA;simp only [Qbr.l1] at H
        by_cases c13:x19_2<(l1.length:Int)
        ·
         rw [if_pos c13] at H;have c13b0:=decide_eq_true c13;clear c13
         by_cases c14:0≤x19_2
         ·
          rw [if_pos c14] at H;have c14b0:=decide_eq_true c14;clear c14
          by_cases c15:x19_2<(l1.length:Int)
          ·
           rw [if_pos c15] at H;have c15b0:=decide_eq_true c15;clear c15
           by_cases c16:1<((Qo l1 x19_2).length:Int)
           ·
            rw [if_pos c16] at H;have c16b0:=decide_eq_true c16;have c16b1:decide (1<(Qo l1 x19_2).length)=true:=decide_eq_true (by omega);clear c16
            by_cases c17:(rd (Qo l1 x19_2) 1)=x6_1
            ·
             rw [if_pos c17] at H;have c17b0:((rd (Qo l1 x19_2) 1)==x6_1)=true:=beq_iff_eq.mpr c17;have c17b1:((rd (Qo l1 x19_2) 1) !=x6_1)=false:=bne_eq_false_iff_eq.mpr c17;clear c17
             by_cases c18:0≤x6_1
             ·
              rw [if_pos c18] at H;have c18b0:=decide_eq_true c18;clear c18
              by_cases c19:x6_1<(x456000_2.length:Int)
              ·
               rw [if_pos c19] at H;have c19b0:=decide_eq_true c19;clear c19
               by_cases c20:0<((Qo l1 x19_2).length:Int)
               ·
                rw [if_pos c20] at H;have c20b0:=decide_eq_true c20;have c20b1:decide (0<(Qo l1 x19_2).length)=true:=decide_eq_true (by omega);clear c20
                by_cases c21:0≤(rd (Qo l1 x19_2) 0)
                ·
                 rw [if_pos c21] at H;have c21b0:=eq_true c21;have c21b1:=decide_eq_true c21;clear c21;obtain ⟨ji22,hji22⟩: ∃ j_:Int,(shl .i64 1 (rd (Qo l1 x19_2) 0))=j_:=⟨_,rfl⟩
                 replace H:(if (rd (Qo l1 x19_2) 0)<(x456000_2.length:Int) then (Qbr.l1 k2 a0 l1 x6_1 l1 (l1.length:Int) (wrap64 (x19_2+1)) (x456000_2.set (x6_1:Int).toNat (Go.bits .or .i64 (rd x456000_2 x6_1) (Go.bits .or .i64 (ji22) (rd x456000_2 (rd (Qo l1 x19_2) 0)))))) else (none))=some r:=by first|(rw [hji22] at H;exact H)|(simp only [hji22] at H ⊢;exact H)
                 have hji22_:(IntKind.i64.wrap (1*2 ^ min (rd (Qo l1 x19_2) 0).toNat 64))=ji22:=hji22;have hji22z:(rd (Qo l1 x19_2) 0)≤64→(IntKind.i64.wrap (1*2 ^ (rd (Qo l1 x19_2) 0).toNat))=ji22:=Qea hji22;have hji22u:(IntKind.i64.wrap (2 ^ min (rd (Qo l1 x19_2) 0).toNat 64))=ji22:=by have h_:=hji22_;rw [Int.one_mul] at h_;exact h_
                 have hji22v:(rd (Qo l1 x19_2) 0)≤64→(IntKind.i64.wrap (2 ^ (rd (Qo l1 x19_2) 0).toNat))=ji22:=fun hle_=>by have h_:=hji22z hle_;rw [Int.one_mul] at h_;exact h_
                 have hji22y:(wrap64 (1*2 ^ min (rd (Qo l1 x19_2) 0).toNat 64))=ji22:=(Qcm _).symm.trans hji22_;have hji22x:(rd (Qo l1 x19_2) 0)≤64→(wrap64 (1*2 ^ (rd (Qo l1 x19_2) 0).toNat))=ji22:=fun h_=>(Qcm _).symm.trans (hji22z h_)
                 by_cases c23:(rd (Qo l1 x19_2) 0)<(x456000_2.length:Int)
                 ·
                  rw [if_pos c23] at H;have c23b0:=decide_eq_true c23;clear c23;obtain ⟨y462,hy462⟩: ∃ y_:List Int,y_=(x456000_2.set (x6_1:Int).toNat (Go.bits .or .i64 (rd x456000_2 x6_1) (Go.bits .or .i64 (ji22) (rd x456000_2 (rd (Qo l1 x19_2) 0))))):=⟨_,rfl⟩
                  replace H:(Qbr.l1 k2 a0 l1 x6_1 l1 (l1.length:Int) (wrap64 (x19_2+1)) y462)=some r:=by first|(rw [hy462];with_reducible exact H)|(have H2_:=(Option.bind_some _ _).symm.trans H;rw [hy462];with_reducible exact H2_)|(have H2_:=(Option.bind_some _ _).symm.trans H;with_reducible exact H2_)|with_reducible exact H|(rw [hy462];exact H)|exact H
                  have Ny462:=Zk hy462;clear hy462;have H':=Zk H;clear H;have p456:0≤(x19_2:Int):=of_decide_eq_true (by first|(with_reducible assumption)|assumption);have q456:x19_2<(l1.length:Int):=of_decide_eq_true (by first|(with_reducible assumption)|assumption);obtain ⟨ad456,A456_0,c456_0,e456,hx456_0,hl456_0,hi456_0⟩:=Qfg HR1.out x19_2 p456 q456;cases e456;replace hx456_0:=(HB.out.cell (World.block_lt_of_cell? w _ hx456_0)).trans hx456_0;have HR456_0:=Zk hi456_0;have HC456_0:=Zk hl456_0;clear hi456_0 hl456_0;replace p456:=eq_true p456;replace q456:=eq_true q456;have p457:0≤(1:Int):=(by omega)
                  have q457:1<((Qo l1 x19_2).length:Int):=of_decide_eq_true (by first|(with_reducible assumption)|assumption);obtain ⟨ad457,e457,hx457_0⟩:=Kd.at_int HR456_0.out 1 p457 q457;cases e457
                  (try simp only [show (1:Int).toNat=1 from rfl,Nat.reduceMul,Nat.reduceEqDiff,Go.Addr.add,↓reduceIte] at hx457_0)
                  have qi457:(1<(Qo l1 x19_2).length)=True:=eq_true (by omega)
                  (try rw [show ((1:Int)).toNat=1 from rfl] at hx457_0)
                  replace hx457_0:=(HB.out.cell (World.block_lt_of_cell? w _ hx457_0)).trans hx457_0;replace p457:=eq_true p457;replace q457:=eq_true q457
                  try go_wp2
                  replace HO_456000:=Zk (Kd.R_drew HO_456000.out);replace BK451:=Zk (Qc7 BK451.out);replace BK455:=Zk (Qc7 BK455.out);replace HB:=Zk (Q2 HB.out);obtain ⟨Ao26,co26,eo26⟩:=Kd.R_slice HO_456000.out
                  (first|subst eo26|(injection eo26 with f1_ f2_ f3_;have f4_:=f1_.symm;have f5_:=f3_.symm;clear f1_ f2_ f3_;subst f4_;subst f5_))
                  have p458:0≤(x6_1:Int):=of_decide_eq_true (by first|(with_reducible assumption)|assumption);have q458:x6_1<(x456000_2.length:Int):=of_decide_eq_true (by first|(with_reducible assumption)|assumption);obtain ⟨ad458,e458,hx458_0⟩:=Kd.at_int (Kd.R_reads' HO_456000.out).2.2 x6_1 p458 q458;cases e458;replace p458:=eq_true p458;replace q458:=eq_true q458;have p459:0≤(0:Int):=(by omega)
                  have q459:0<((Qo l1 x19_2).length:Int):=of_decide_eq_true (by first|(with_reducible assumption)|assumption);obtain ⟨ad459,e459,hx459_0⟩:=Kd.at_int HR456_0.out 0 p459 q459;have hw459_0:=hx459_0
                  (try rw [show ((0:Int)).toNat=0 from rfl] at hw459_0)
                  (try rw [show 0*1=0 from rfl] at hw459_0)
                  (try rw [Addr.add_zero'] at hw459_0)
                  obtain rfl:ad457=ad459:=(by injection e459)
                  have qi459:(0<(Qo l1 x19_2).length)=True:=eq_true (by omega)
                  (try rw [show ((0:Int)).toNat=0 from rfl] at hx459_0)
                  (try rw [Addr.add_zero'] at hx459_0)
                  replace hx459_0:=(HB.out.cell (World.block_lt_of_cell? w _ hx459_0)).trans hx459_0;replace p459:=eq_true p459;replace q459:=eq_true q459;have p460:0≤(0:Int):=(by omega)
                  have q460:0<((Qo l1 x19_2).length:Int):=of_decide_eq_true (by first|(with_reducible assumption)|assumption);obtain ⟨ad460,e460,hx460_0⟩:=Kd.at_int HR456_0.out 0 p460 q460;have hw460_0:=hx460_0
                  (try rw [show ((0:Int)).toNat=0 from rfl] at hw460_0)
                  (try rw [show 0*1=0 from rfl] at hw460_0)
                  (try rw [Addr.add_zero'] at hw460_0)
                  obtain rfl:ad457=ad460:=(by injection e460)
                  have qi460:(0<(Qo l1 x19_2).length)=True:=eq_true (by omega)
                  (try rw [show ((0:Int)).toNat=0 from rfl] at hx460_0)
                  (try rw [Addr.add_zero'] at hx460_0)
                  replace hx460_0:=(HB.out.cell (World.block_lt_of_cell? w _ hx460_0)).trans hx460_0;replace p460:=eq_true p460;replace q460:=eq_true q460;have p461:0≤((rd (Qo l1 x19_2) 0):Int):=of_decide_eq_true (by first|(with_reducible assumption)|assumption);have q461:(rd (Qo l1 x19_2) 0)<(x456000_2.length:Int):=of_decide_eq_true (by first|(with_reducible assumption)|assumption);obtain ⟨ad461,e461,hx461_0⟩:=Kd.at_int (Kd.R_reads' HO_456000.out).2.2 (rd (Qo l1 x19_2) 0) p461 q461;obtain rfl:ad458=ad461:=(by injection e461)
                  replace p461:=eq_true p461;replace q461:=eq_true q461;have p24:0≤(x6_1:Int):=of_decide_eq_true (by first|(with_reducible assumption)|assumption);have q24:(x6_1:Int)<((x456000_2.length:Int):Int):=of_decide_eq_true (by first|(with_reducible assumption)|assumption);obtain ⟨go24,co24,eo24,gb24,gl24,cl24,HG24⟩:=Kd.R_form HO_456000.out (by omega)
                  (first|cases eo24|(injection eo24 with ea_ en_ ec_;(first|subst ea_|(injection ea_ with ea_;subst ea_));subst ec_;clear en_))
                  have GB24:=Zk gb24;have GG24:=Zk HG24;clear gb24 gl24 HG24
                  (first|simp only [Qd2] at hx458_0|skip)
                  (first|simp only [Qd2] at hx461_0|skip)
                  obtain ⟨hx24_0,hf24_0⟩:=Kd.R_celln 0 HO_456000.out (x6_1:Int) p24 q24;replace p24:=eq_true p24;replace q24:=eq_true q24;have HP27:=Kd.R_putn HO_456000.out (x6_1:Int) (Go.bits .or .i64 (rd x456000_2 x6_1) (Go.bits .or .i64 (ji22) (rd x456000_2 (rd (Qo l1 x19_2) 0))));rw [←Ny462.out] at HP27;have HQ27:=Zk HP27;clear HP27;refine sU (n:=20) (S:=fun w'=>w'.cell? ⟨gb455,0,none⟩=some (.slice (some ⟨go24,0,none⟩) x456000_2.length co26)∧w'.cell? ⟨go24,(x6_1).toNat,none⟩=some (.int .i64 (rd x456000_2 x6_1))∧w'.cell? ad457=some (.int .i64 (rd (Qo l1 x19_2) 0))∧w'.cell? ad457=some (.int .i64 (rd (Qo l1 x19_2) 0))∧w'.cell? ⟨go24,((rd (Qo l1 x19_2) 0)).toNat,none⟩=some (.int .i64 (rd x456000_2 (rd (Qo l1 x19_2) 0)))) (ds:= [19]) ⟨(Qcs BK455.out 0).trans rfl,hx458_0,((HB.out.cell (World.block_lt_of_cell? w _ hw459_0)).trans hw459_0),((HB.out.cell (World.block_lt_of_cell? w _ hw460_0)).trans hw460_0),hx461_0⟩ (fun hHeld=> ?_);refine Qey Qbr.tab9 Qbr.bits9 (fun HT_ HW_=> ?_);generalize wr.drew=w25 at HO_456000 BK451 BK455 HB GG24 HQ27 hf24_0 hx24_0 hx458_0 hx459_0 hx460_0 hx461_0 hHeld ⊢;refine pU 0 28 ?_;refine pU 2 30 ?_;refine pU 5 33 ?_;refine pU 6 34 ?_;refine pU 9 37 ?_;refine pU 11 39 ?_;refine pU 12 40 ?_;refine take_ (i:=1) (N:=some 29) (v:= ?_) (a':= ?_) #[true,true,true,false,false,true,true,false,false,true,false,true,true,false,false,false,false,false,false,false] rfl rfl (Qe7 HT_.out HW_.out (by kernel_rfl)) (fun _ _ _ h=>h) (Or.inl ⟨by rfl,?_⟩) hHeld ?_ ?_;rotate_left
                  ·
                   rintro w' ⟨s0,s1,s2,s3,s4⟩;go_simp
                   with_reducible rfl
                  rotate_left
                  ·
                   simp only [Act.put,List.setIfInBounds_toArray,List.set_cons_zero,List.set_cons_succ,Qcm,Qee];rfl
                  refine pU 3 31 ?_;refine take_ (i:=4) (N:=some 32) (v:= ?_) (a':= ?_) #[true,true,true,true,true,true,true,false,false,true,false,true,true,false,false,false,false,false,false,false] rfl rfl (Qe7 HT_.out HW_.out (by kernel_rfl)) (fun _ _ _ h=>h) (Or.inl ⟨by rfl,?_⟩) hHeld ?_ ?_;rotate_left
                  ·
                   rintro w' ⟨s0,s1,s2,s3,s4⟩;go_simp
                   with_reducible rfl
                  rotate_left
                  ·
                   simp only [Act.put,List.setIfInBounds_toArray,List.set_cons_zero,List.set_cons_succ,Qcm,Qee];rfl
                  refine take_ (i:=7) (N:=some 35) (v:= ?_) (a':= ?_) #[true,true,true,true,true,true,true,true,false,true,false,true,true,false,false,false,false,false,false,false] rfl rfl (Qe7 HT_.out HW_.out (by kernel_rfl)) (fun _ _ _ h=>h) (Or.inl ⟨by rfl,?_⟩) hHeld ?_ ?_;rotate_left
                  ·
                   rintro w' ⟨s0,s1,s2,s3,s4⟩;go_simp
                   with_reducible rfl
                  rotate_left
                  ·
                   simp only [Act.put,List.setIfInBounds_toArray,List.set_cons_zero,List.set_cons_succ,Qcm,Qee];rfl
                  refine pU 8 36 ?_;refine take_ (i:=10) (N:=some 38) (v:= ?_) (a':= ?_) #[true,true,true,true,true,true,true,true,true,true,true,true,true,false,false,false,false,false,false,false] rfl rfl (Qe7 HT_.out HW_.out (by kernel_rfl)) (fun _ _ _ h=>h) (Or.inl ⟨by rfl,?_⟩) hHeld ?_ ?_;rotate_left
                  ·
                   rintro w' ⟨s0,s1,s2,s3,s4⟩;go_simp
                   with_reducible rfl
                  rotate_left
                  ·
                   simp only [Act.put,List.setIfInBounds_toArray,List.set_cons_zero,List.set_cons_succ,Qcm,Qee];rfl
                  refine take_ (i:=13) (N:=some 41) (v:= ?_) (a':= ?_) #[true,true,true,true,true,true,true,true,true,true,true,true,true,true,false,false,false,false,false,false] rfl rfl (Qe7 HT_.out HW_.out (by kernel_rfl)) (fun _ _ _ h=>h) (Or.inl ⟨by rfl,?_⟩) hHeld ?_ ?_;rotate_left
                  ·
                   rintro w' ⟨s0,s1,s2,s3,s4⟩;go_simp
                   with_reducible rfl
                  rotate_left
                  ·
                   simp only [Act.put,List.setIfInBounds_toArray,List.set_cons_zero,List.set_cons_succ,Qcm,Qee];rfl
                  refine pU 14 42 ?_;refine take_ (i:=15) (N:=some 43) (v:= ?_) (a':= ?_) #[true,true,true,true,true,true,true,true,true,true,true,true,true,true,true,true,false,false,false,false] rfl rfl (Qe7 HT_.out HW_.out (by kernel_rfl)) (fun _ _ _ h=>h) (Or.inl ⟨by rfl,?_⟩) hHeld ?_ ?_;rotate_left
                  ·
                   rintro w' ⟨s0,s1,s2,s3,s4⟩;go_simp
                   with_reducible rfl
                  rotate_left
                  ·
                   simp only [Act.put,List.setIfInBounds_toArray,List.set_cons_zero,List.set_cons_succ,Qcm,Qee];rfl
                  refine pU 16 44 ?_;refine pU 17 45 ?_;refine pU 18 46 ?_;refine lU 19 none fun K hK=> ?_
                  refine sK ?_;refine hK.out _ _ ?_;clear hK K;refine dU ?_
                  try go_wp2
                  go_roundg k2
                  case measure=>have:=HK1.out;have:=HK2.out;omega
                  case rel=>exact ⟨(wrap64 (x19_2+1)),(y462),(.slice (some ⟨go24,0,none⟩) x456000_2.length co26),(by first|rfl|(simp;done)|(simp [*];done)),H',⟨by have:=HK1.out;have:=HK2.out;omega⟩,⟨uR HQ27⟩,⟨by (with_reducible repeat (first|refine Qcg ?_ _|refine Qc7 ?_|refine Qci ?_ _));refine Qd5 ?_ (by have h_:=Kd.R_ne HO_456000.out BK451.out (by decide);intro e_;exact h_ (by rw [e_];rfl)) _;(with_reducible repeat (first|refine Qcg ?_ _|refine Qc7 ?_|refine Qci ?_ _));exact BK451.out⟩,⟨by (with_reducible repeat (first|refine Qcg ?_ _|refine Qc7 ?_|refine Qci ?_ _));refine Qd5 ?_ (by have h_:=Kd.R_ne HO_456000.out BK455.out (by decide);intro e_;exact h_ (by rw [e_];rfl)) _;(with_reducible repeat (first|refine Qcg ?_ _|refine Qc7 ?_|refine Qci ?_ _));exact BK455.out⟩,⟨(vB HB)⟩⟩
                 ·
                  rw [if_neg c23] at H;exact absurd H (by simp)
                ·
                 rw [if_neg c21] at H;exact absurd H (by simp)
               ·
                rw [if_neg c20] at H;exact absurd H (by simp)
              ·
               rw [if_neg c19] at H;exact absurd H (by simp)
             ·
              rw [if_neg c18] at H;exact absurd H (by simp)
            ·
             rw [if_neg c17] at H;have c17b0:((rd (Qo l1 x19_2) 1)==x6_1)=false:=beq_eq_false_iff_ne.mpr c17;have c17b1:((rd (Qo l1 x19_2) 1) !=x6_1)=true:=bne_iff_ne.mpr c17;have H':=Zk H;clear H;have p456:0≤(x19_2:Int):=of_decide_eq_true (by first|(with_reducible assumption)|assumption);have q456:x19_2<(l1.length:Int):=of_decide_eq_true (by first|(with_reducible assumption)|assumption);obtain ⟨ad456,A456_0,c456_0,e456,hx456_0,hl456_0,hi456_0⟩:=Qfg HR1.out x19_2 p456 q456;cases e456;replace hx456_0:=(HB.out.cell (World.block_lt_of_cell? w _ hx456_0)).trans hx456_0;have HR456_0:=Zk hi456_0;have HC456_0:=Zk hl456_0;clear hi456_0 hl456_0;replace p456:=eq_true p456;replace q456:=eq_true q456;have p457:0≤(1:Int):=(by omega)
             have q457:1<((Qo l1 x19_2).length:Int):=of_decide_eq_true (by first|(with_reducible assumption)|assumption);obtain ⟨ad457,e457,hx457_0⟩:=Kd.at_int HR456_0.out 1 p457 q457;cases e457
             (try simp only [show (1:Int).toNat=1 from rfl,Nat.reduceMul,Nat.reduceEqDiff,Go.Addr.add,↓reduceIte] at hx457_0)
             have qi457:(1<(Qo l1 x19_2).length)=True:=eq_true (by omega)
             (try rw [show ((1:Int)).toNat=1 from rfl] at hx457_0)
             replace hx457_0:=(HB.out.cell (World.block_lt_of_cell? w _ hx457_0)).trans hx457_0;replace p457:=eq_true p457;replace q457:=eq_true q457;go_wp2;go_roundg k2
             case measure=>have:=HK1.out;have:=HK2.out;omega
             case rel=>exact ⟨(wrap64 (x19_2+1)),(x456000_2),(u456000),(by first|rfl|(simp;done)|(simp [*];done)),H',⟨by have:=HK1.out;have:=HK2.out;omega⟩,⟨uR HO_456000⟩,⟨uK BK451⟩,⟨uK BK455⟩,⟨(vB HB)⟩⟩
           ·
            rw [if_neg c16] at H;exact absurd H (by simp)
          ·
           rw [if_neg c15] at H;exact absurd H (by simp)
         ·
          rw [if_neg c14] at H;exact absurd H (by simp)
        ·
         rw [if_neg c13] at H;have c13b0:=decide_eq_false c13;clear c13;have H':=Zk H;clear H;go_wp2;go_roundg k2
         case measure=>have:=HK1.out;have:=HK2.out;omega
         case rel=>exact ⟨(wrap64 (x6_1+1)),(x456000_2),(u456000),(by first|rfl|(simp;done)|(simp [*];done)),H',⟨by have:=HK1.out;have:=HK2.out;omega⟩,⟨uR HO_456000⟩,⟨uK BK451⟩,⟨uK BK455⟩,⟨(vB HB)⟩⟩
     ·
      rw [if_neg c12] at H;have c12b0:=decide_eq_false c12;clear c12;obtain rfl:=Option.some.inj H;have hnb28:=NB455_451.out;have hnc28:=NB451_455.out;have hcz29_0:=bC BK455;have hfz29_0:=Q6 BK455.out 0;obtain ⟨Ao30,co30,eo30⟩:=Kd.R_slice HO_456000.out;subst eo30;have hcz31_0:=bC BK451;have hfz31_0:=Q6 BK451.out 0;go_wp2;refine bodyPost_ret (results_cell_row rfl _ _ gb451 26 #[.slice Ao30 x456000_1.length co30] (0,0) _ rfl bP Tryz.underlying26 rfl (by kernel_rfl)) rfl ?_;exact ⟨_,by first|rfl|(simp [Qe,Qf] <;>rfl)|(simp [*,Qe,Qf] <;>rfl),by (with_reducible repeat (first|apply Kd.R_alloc|apply Kd.R_drewN|apply Kd.R_drew));exact Kd.R_mono (Kd.R_far (p:=⟨gb451,0,none⟩) (Kd.R_types HO_456000.out BK451.out (by decide)) (fun _ hk=>hk.2) (.slice Ao30 x456000_1.length co30)) (fun _ hk=>trivial),(vB HB)⟩
  ·
   rw [if_neg c4] at H;exact absurd H (by simp)
 ·
  rw [if_neg c3] at H;exact absurd H (by simp)
end Go.Proofs.YtkgngggppcmpfaaGreat.L
end
