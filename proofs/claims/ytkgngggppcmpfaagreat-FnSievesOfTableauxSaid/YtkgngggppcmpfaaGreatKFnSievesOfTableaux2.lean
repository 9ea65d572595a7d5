/- Laws about the given program: the law FnSievesOfTableaux answers true for every input that its row lets in; no condition is added to the given statement. Contracts of the Go functions that it reaches, and the plain proof over lists. -/
import Derived.Test.YtkgngggppcmpfaaGreatWFnSievesOfTableaux0
import Derived.Test.YtkgngggppcmpfaaGreatKFnSievesOfTableaux0
import Derived.Test.YtkgngggppcmpfaaGreatKFnSievesOfTableaux1
section
namespace Go.Proofs.YtkgngggppcmpfaaGreat.L
open Go.RowKit Go.Proofs.YtkgngggppcmpfaaGreatW.PrintWords Go.Proofs.YtkgngggppcmpfaaGreatW.PrintLast Go.Proofs.YtkgngggppcmpfaaGreatW.PrintMore
attribute [local go_sem] Qy Q0 Qbb Qbc Qp Qq Qz Q1
set_option linter.unusedVariables false
set_option linter.unusedSimpArgs false
def Qt.loop (put:Int→List Int→List (List Int)→Option (List (List Int))) (s:Int) (w:List Int):List Int→List (List Int)→Option (List (List Int))
 | [],O=>some O
 |e::js,O=>if 0≤e∧w.length<17592186044416 then (put (Go.bits .or .i64 s (shl .i64 1 e)) (w++ [e]) O).bind fun O'=>Qt.loop put s w js O' else none
def Qt.put (k:Nat) (l0:List Int) (t:Int):Nat→Int→List Int→List (List Int)→Option (List (List Int))
 |0,s,w,O=>if s=t then (if w.length<17592186044416∧O.length<5864062014805 then some (O++ [w]) else none) else none
 |d+1,s,w,O=>if s=t then (if w.length<17592186044416∧O.length<5864062014805 then some (O++ [w]) else none) else (Qc6.f k l0 s).bind fun js=>if js.length≤9223372036854775806 then Qt.loop (Qt.put k l0 t d) s w js O else none
def Qt.f (k:Nat) (l0:List Int):Option (List (List Int) × Bool):=(Qb2.f k l0).bind fun b=>if b=true then (Qbd.f k l0).bind fun ws=>if 0<ws.length then (if rd ws 0>500 then some ([],false) else (Qch.f l0).bind fun t=>(Qt.put k l0 t l0.length 0 [] []).bind fun O=>some (O,true)) else none else some ([],false)
theorem Qt.loop_mono {p q:Int→List Int→List (List Int)→Option (List (List Int))} (h: ∀ s w O,LeO (p s w O) (q s w O)) (s:Int) (w:List Int): ∀ js O,LeO (Qt.loop p s w js O) (Qt.loop q s w js O)
 | [],_=>LeO.refl _
 |e::js,O=>by
  rw [Qt.loop,Qt.loop];exact LeO.ite (LeO.bind (h _ _ _) fun t=>Qt.loop_mono h s w js _) (LeO.refl _)
theorem Qt.put_mono (k:Nat) (l0:List Int) (t:Int): ∀ d s w O,LeO (Qt.put k l0 t d s w O) (Qt.put (k+1) l0 t d s w O)
 |0,_,_,_=>LeO.refl _
 |d+1,s,w,O=>by
  rw [Qt.put,Qt.put];exact LeO.ite (LeO.refl _) (LeO.bind (Qc6.mono _ _ _) fun js=>LeO.ite (Qt.loop_mono (fun s w O=>Qt.put_mono k l0 t d s w O) _ _ _ _) (LeO.refl _))
theorem Qt.mono: ∀ a0 k,LeO (Qt.f k a0) (Qt.f (k+1) a0):=by
 intro l0 k;unfold Qt.f;exact LeO.bind (Qb2.mono _ _) fun b=>LeO.ite (LeO.bind (Qbd.mono _ _) fun ws=>LeO.ite (LeO.ite (LeO.refl _) (LeO.bind (LeO.refl _) fun t=>LeO.bind (Qt.put_mono _ _ _ _ _ _ _) fun O=>LeO.refl _)) (LeO.refl _)) (LeO.refl _)
def Qt.okX (Bp Bo Bw Bq:Nat) (k:Nat):Prop:=k≠Bp∧k≠Bo∧k≠Bw∧k≠Bq
structure Qt.Inv (w0 W : World) (A0 : Option Addr) (n c0 : Nat) (Bp Bo Bw Bq : Nat) (K : Nat → Prop) (W1 : World) (wl : List Int) (vW : Value) (O : List (List Int)) (vO : Value) : Prop where
 below:Below w0.heap.size w0 W
 bp:W.heap[Bp]? =some (.cells #[.slice A0 n c0] 26 (0,0))
 bo:W.heap[Bo]? =some (.cells #[vO] 40 (0,0))
 bw:W.heap[Bw]? =some (.cells #[vW] 24 (0,0))
 bq:W.heap[Bq]? =some (.cells #[.func (.func 343) #[] #[.pointer (some ⟨Bp,0,none⟩), .pointer (some ⟨Bo,0,none⟩), .pointer (some ⟨Bw,0,none⟩), .pointer (some ⟨Bq,0,none⟩)]] 166 (0,0))
 so:Kd.S (Kd.slice 3 (Kd.int .i64)) 24 W w0.heap.size (fun k=>Qt.okX Bp Bo Bw Bq k∧some k≠vW.ownBlock) vO O
 rw:Kd.R (Kd.int .i64) 3 W w0.heap.size (fun k=>Qt.okX Bp Bo Bw Bq k∧some k≠vO.ownBlock) vW wl
 go:w0.heap.size≤Bo
 gw:w0.heap.size≤Bw
 ks:W1.heap.size≤W.heap.size
 kp: ∀ b,K b→W.heap[b]? =W1.heap[b]? ∧b<W1.heap.size∧b≠Bo∧b≠Bw∧some b≠vO.ownBlock∧some b≠vW.ownBlock
theorem Qt.cell_same {w w':World} {a:Addr} (h:w.heap[a.block]? =w'.heap[a.block]?):w.cell? a=w'.cell? a:=by unfold World.cell?;rw [h]
theorem Qt.ssz (w:World) (a:Addr) (v:Value):(w.setCell a v).heap.size=w.heap.size:=by simp [World.setCell]
open Go.Proofs.YtkgngggppcmpfaaGreat.X in
theorem Qt.Inv.step {w0 W W2 W1:World} {A0:Option Addr} {n c0:Nat} {Bp Bo Bw Bq:Nat} {K:Nat→Prop} {wl:List Int} {vW:Value} {O:List (List Int)} {vO:Value} (h:Qt.Inv w0 W A0 n c0 Bp Bo Bw Bq K W1 wl vW O vO) (hb:Below W.heap.size W W2):Qt.Inv w0 W2 A0 n c0 Bp Bo Bw Bq K W1 wl vW O vO:=
 ⟨Qbp h.below hb,Qbg h.bp hb,Qbg h.bo hb,Qbg h.bw hb,Qbg h.bq hb,Kd.S_below h.so hb,Kd.R_below h.rw hb,h.go,h.gw,Nat.le_trans h.ks hb.size,fun b hk=>by
  obtain ⟨h1,h2,h3⟩:=h.kp b hk;exact ⟨(hb.block b (Nat.lt_of_lt_of_le h2 h.ks)).trans h1,h2,h3⟩⟩
theorem Qt.Inv.rebase {w0 W W1:World} {A0:Option Addr} {n c0:Nat} {Bp Bo Bw Bq:Nat} {K:Nat→Prop} {wl:List Int} {vW:Value} {O:List (List Int)} {vO:Value} (h:Qt.Inv w0 W A0 n c0 Bp Bo Bw Bq K W1 wl vW O vO):Qt.Inv w0 W A0 n c0 Bp Bo Bw Bq K W wl vW O vO:=
 have hk2: ∀ b,K b→W.heap[b]? =W.heap[b]? ∧b<W.heap.size∧b≠Bo∧b≠Bw∧some b≠vO.ownBlock∧some b≠vW.ownBlock:=fun b hk=>⟨rfl,Nat.lt_of_lt_of_le (h.kp b hk).2.1 h.ks,(h.kp b hk).2.2⟩
 { h with ks:=Nat.le_refl _,kp:=hk2 }
theorem Qt.Inv.back {w0 W W1 W2:World} {A0:Option Addr} {n c0:Nat} {Bp Bo Bw Bq:Nat} {K K2:Nat→Prop} {wl wl2:List Int} {vW vW2:Value} {O O2:List (List Int)} {vO vO2:Value} (h:Qt.Inv w0 W A0 n c0 Bp Bo Bw Bq K2 W2 wl vW O vO) (h2:Qt.Inv w0 W2 A0 n c0 Bp Bo Bw Bq K W1 wl2 vW2 O2 vO2) (hK: ∀ b,K b→K2 b):Qt.Inv w0 W A0 n c0 Bp Bo Bw Bq K W1 wl vW O vO:=
 have hk2: ∀ b,K b→W.heap[b]? =W1.heap[b]? ∧b<W1.heap.size∧b≠Bo∧b≠Bw∧some b≠vO.ownBlock∧some b≠vW.ownBlock:=fun b hk=>⟨(h.kp b (hK b hk)).1.trans (h2.kp b hk).1,(h2.kp b hk).2.1,(h.kp b (hK b hk)).2.2⟩
 { h with ks:=Nat.le_trans h2.ks h.ks,kp:=hk2 }
open Go.Proofs.YtkgngggppcmpfaaGreat.X in
theorem Qt.Inv.push {w0 w1 w2 w3 W1:World} {A0:Option Addr} {n c0:Nat} {Bp Bo Bw Bq:Nat} {K:Nat→Prop} {wl:List Int} {vW:Value} {O:List (List Int)} {Ao A3:Option Addr} {co c3:Nat} (h:Qt.Inv w0 w1 A0 n c0 Bp Bo Bw Bq K W1 wl vW O (.slice Ao O.length co)) (hB:Below w1.heap.size w1 w2)
 (ho:Kd.S (Kd.slice 3 (Kd.int .i64)) 24 w3 w0.heap.size (fun k=>Qt.okX Bp Bo Bw Bq k∧some k≠vW.ownBlock) (.slice A3 (O++ [wl]).length c3) (O++ [wl])) (hb:Below w0.heap.size w0 w3) (hg:w2.grownBy w3 (Value.slice Ao O.length co).ownBlock)
 (hat:(Value.slice A3 (O++ [wl]).length c3).ownBlock=(Value.slice Ao O.length co).ownBlock∨ ∃ b,(Value.slice A3 (O++ [wl]).length c3).ownBlock=some b∧w2.heap.size≤b):
 Qt.Inv w0 (w3.setCell ⟨Bo,0,none⟩ (.slice A3 (O.length+1) c3)) A0 n c0 Bp Bo Bw Bq K W1 wl vW (O++ [wl]) (.slice A3 (O.length+1) c3):=by
 have e:(O++ [wl]).length=O.length+1:=by simp
 rw [e] at ho hat;have hi:=h.step hB;refine ⟨Qbt hb h.go,?_,?_,?_,?_,?_,?_,h.go,h.gw,?_,fun b hk=> ?_⟩
 ·
  exact Qd5 (Qc8 hi.bp hg (Kd.S_away h.so fun _ hk=>hk.1.1)) (show Bp≠Bo from Qff h.bp h.bo (by decide)) _
 ·
  exact Qgh (Qc8 hi.bo hg (Kd.S_away h.so fun _ hk=>hk.1.2.1)) 0 _ rfl
 ·
  exact Qd5 (Qc8 hi.bw hg (Kd.S_away h.so fun _ hk=>hk.1.2.2.1)) (show Bw≠Bo from Qff h.bw h.bo (by decide)) _
 ·
  exact Qd5 (Qc8 hi.bq hg (Kd.S_away h.so fun _ hk=>hk.1.2.2.2)) (show Bq≠Bo from Qff h.bq h.bo (by decide)) _
 ·
  exact Kd.S_far ho (fun k hk=>hk.1.2.1) _
 ·
  exact Kd.R_far (Kd.R_after (ok:=Qt.okX Bp Bo Bw Bq) hi.rw hg hat) (fun k hk=>hk.1.2.1) _
 ·
  rw [Qt.ssz];exact Nat.le_trans hi.ks hg.size
 ·
  obtain ⟨h1,h2,h3,h4,h5,h6⟩:=hi.kp b hk;have hlt:b<w2.heap.size:=Nat.lt_of_lt_of_le h2 hi.ks;refine ⟨(Below.heap_setCell w3 _ _ b h3).trans ((hg.block b hlt h5).trans h1),h2,h3,h4,?_,h6⟩;intro q;rcases hat with q2|⟨b2,q2,q3⟩
  ·
   exact h5 (q.trans q2)
  ·
   have:=Option.some.inj (q.trans q2);omega
open Go.Proofs.YtkgngggppcmpfaaGreat.X in
theorem Qt.Inv.app {w0 w1 w2 w3 W1:World} {A0:Option Addr} {n c0:Nat} {Bp Bo Bw Bq:Nat} {K:Nat→Prop} {wl:List Int} {vW v3:Value} {O:List (List Int)} {vO:Value} {x:Int} (h:Qt.Inv w0 w1 A0 n c0 Bp Bo Bw Bq K W1 wl vW O vO) (hB:Below w1.heap.size w1 w2)
 (ho:Kd.R (Kd.int .i64) 3 w3 w0.heap.size (fun k=>Qt.okX Bp Bo Bw Bq k∧some k≠vO.ownBlock) v3 (wl++ [x])) (hb:Below w0.heap.size w0 w3) (hg:w2.grownBy w3 vW.ownBlock)
 (hat:v3.ownBlock=vW.ownBlock∨ ∃ b,v3.ownBlock=some b∧w2.heap.size≤b):
 Qt.Inv w0 (w3.setCell ⟨Bw,0,none⟩ v3) A0 n c0 Bp Bo Bw Bq K W1 (wl++ [x]) v3 O vO:=by
 have hi:=h.step hB;have aw: ∀ {B:Nat},(∀ k,Qt.okX Bp Bo Bw Bq k→k≠B)→some B≠vW.ownBlock:=fun hk e=>hk _ (h.rw.1 _ e.symm).1 rfl
 refine ⟨Qbt hb h.gw,?_,?_,?_,?_,?_,?_,h.go,h.gw,?_,fun b hk=> ?_⟩
 ·
  exact Qd5 (Qc8 hi.bp hg (aw fun _ hk=>hk.1)) (show Bp≠Bw from Qff h.bp h.bw (by decide)) _
 ·
  exact Qd5 (Qc8 hi.bo hg (aw fun _ hk=>hk.2.1)) (show Bo≠Bw from Qff h.bo h.bw (by decide)) _
 ·
  exact Qgh (Qc8 hi.bw hg (aw fun _ hk=>hk.2.2.1)) 0 _ rfl
 ·
  exact Qd5 (Qc8 hi.bq hg (aw fun _ hk=>hk.2.2.2)) (show Bq≠Bw from Qff h.bq h.bw (by decide)) _
 ·
  exact Kd.S_far (Kd.S_after (ok:=Qt.okX Bp Bo Bw Bq) hi.so hg hat) (fun k hk=>hk.1.2.2.1) _
 ·
  exact Kd.R_far ho (fun k hk=>hk.1.2.2.1) _
 ·
  rw [Qt.ssz];exact Nat.le_trans hi.ks hg.size
 ·
  obtain ⟨h1,h2,h3,h4,h5,h6⟩:=hi.kp b hk;have hlt:b<w2.heap.size:=Nat.lt_of_lt_of_le h2 hi.ks;refine ⟨(Below.heap_setCell w3 _ _ b h4).trans ((hg.block b hlt h6).trans h1),h2,h3,h4,h5,?_⟩;intro q;rcases hat with q2|⟨b2,q2,q3⟩
  ·
   exact h6 (q.trans q2)
  ·
   have:=Option.some.inj (q.trans q2);omega
open Go.Proofs.YtkgngggppcmpfaaGreat.X in
theorem Qt.Inv.cut {w0 W W1:World} {A0:Option Addr} {n c0:Nat} {Bp Bo Bw Bq:Nat} {K:Nat→Prop} {wl:List Int} {x:Int} {A:Option Addr} {c:Nat} {O:List (List Int)} {vO:Value} (h:Qt.Inv w0 W A0 n c0 Bp Bo Bw Bq K W1 (wl++ [x]) (.slice A (wl++ [x]).length c) O vO):
 Qt.Inv w0 (W.setCell ⟨Bw,0,none⟩ (.slice A wl.length c)) A0 n c0 Bp Bo Bw Bq K W1 wl (.slice A wl.length c) O vO:=by
 have e:(wl++ [x]).take wl.length=wl:=by simp
 have hr:=Kd.R_take (m:=wl.length) h.rw (by simp);rw [e] at hr;have eb:(Value.slice A wl.length c).ownBlock=(Value.slice A (wl++ [x]).length c).ownBlock:=by cases A<;>rfl
 refine ⟨Qbt h.below h.gw,?_,?_,?_,?_,?_,?_,h.go,h.gw,?_,fun b hk=> ?_⟩
 ·
  exact Qd5 h.bp (show Bp≠Bw from Qff h.bp h.bw (by decide)) _
 ·
  exact Qd5 h.bo (show Bo≠Bw from Qff h.bo h.bw (by decide)) _
 ·
  exact Qgh h.bw 0 _ rfl
 ·
  exact Qd5 h.bq (show Bq≠Bw from Qff h.bq h.bw (by decide)) _
 ·
  rw [eb];exact Kd.S_far h.so (fun k hk=>hk.1.2.2.1) _
 ·
  exact Kd.R_far hr (fun k hk=>hk.1.2.2.1) _
 ·
  rw [Qt.ssz];exact h.ks
 ·
  obtain ⟨h1,h2,h3,h4,h5,h6⟩:=h.kp b hk;exact ⟨(Below.heap_setCell W _ _ b h4).trans h1,h2,h3,h4,h5,by rw [eb];exact h6⟩
open Go.Proofs.YtkgngggppcmpfaaGreat.X in
set_option maxHeartbeats 1600000 in
set_option maxRecDepth 100000 in
theorem Qt.lit0 (w0:World) (A0:Option Addr) (c0:Nat) (l0:List Int) (t:Int) (Bp Bo Bw Bq:Nat) (K:Nat→Prop) (W1:World) (vW:Value) (hr0:Kd.C (Kd.int .i64) w0 A0 l0.length l0) (hc0:l0.length≤c0) (ht:Qch.f l0=some t) (wl:List Int) (O:List (List Int)) (vO:Value) (W:World) (hI:Qt.Inv w0 W A0 l0.length c0 Bp Bo Bw Bq K W1 wl vW O vO) (hl:wl.length<17592186044416∧O.length<5864062014805):
 Calls Tryz.prog 343 #[.int .i64 t, .pointer (some ⟨Bp,0,none⟩), .pointer (some ⟨Bo,0,none⟩), .pointer (some ⟨Bw,0,none⟩), .pointer (some ⟨Bq,0,none⟩)] W fun e W'=>e= .returned (.tuple #[])∧ ∃ vO',Qt.Inv w0 W' A0 l0.length c0 Bp Bo Bw Bq K W1 wl vW (O++ [wl]) vO':=by
 have HR:=Zk hr0;have HC:=Zk hc0;have HT:=Zk ht;have HL:=Zk hl;have HI:=Zk hI;have zp:=Qcs hI.bp 0;clear hr0 hc0 hl hI ht;have hu:=Tryz.underlying26;go_enter Tryz.func343,Tryz.ntmps343;go_wp2_with fail;refine (Qch.calls _ _ l0 t _ (Kd.C_below HR.out HI.out.below) HC.out HT.out).mono ?_;rintro e w1 ⟨rfl,hb⟩;have HI1:=Zk (HI.out.step hb);clear hb HI zp;obtain ⟨Af,cf,eF⟩:=Kd.R_slice HI1.out.rw;subst eF;obtain ⟨Ao,co,eO⟩:=Kd.S_slice HI1.out.so;subst eO;have zo:=Qcs HI1.out.bo 0;have zf:=Qcs HI1.out.bw 0;go_wp2_with fail;have HCL:=Zk (show Qdy.f wl=some wl by unfold Qdy.f;rw [if_pos HL.out.1]);have FR:=Zk (show ∀ k_,w1.heap.size≤k_→(Qt.okX Bp Bo Bw Bq k_∧some k_≠(Value.slice Af wl.length cf).ownBlock)∧some k_≠(Value.slice Ao O.length co).ownBlock from fun k_ hk=>⟨⟨⟨by have:=Qd8 HI1.out.bp;omega,by have:=Qd8 HI1.out.bo;omega,by have:=Qd8 HI1.out.bw;omega,by have:=Qd8 HI1.out.bq;omega⟩,fun e=>by have:=Kd.R_lt HI1.out.rw k_ e.symm;omega⟩,fun e=>by have:=Kd.S_lt HI1.out.so k_ e.symm;omega⟩);have NBF:=Zk (show Bw≠Bo from Qff HI1.out.bw HI1.out.bo (by decide))
 go_region_law
  (first
   |(rw [if_pos (by rfl)];go_simp;go_at_call 295;refine (Qdy.calls _ _ wl wl _ (Kd.C_below (Kd.R_reads' HI1.out.rw).2.2 (Qdo (Below.refl _ _))) (Kd.R_reads' HI1.out.rw).2.1 HCL.out).mono ?_;rintro e w2 ⟨vC,rfl,hC,hb⟩;obtain ⟨Ac,cc,eC⟩:=Kd.R_slice hC;subst eC;have zo2:=Qcb hb zo;have zf2:=Qcb hb zf;have zo2a:=Qcb (Qj (Below.refl w2.heap.size w2) (.cells #[.slice Ac wl.length cc] 24)) zo2;have zf2a:=Qcb (Qj (Below.refl w2.heap.size w2) (.cells #[.slice Ac wl.length cc] 24)) zf2;have B12:=Zk (show Below w1.heap.size w1 w2 from Qbp (Qdo (Below.refl _ _)) hb);have HCC:=Zk (show Kd.R (Kd.int .i64) 3 w2 w1.heap.size (fun _=>True) (.slice Ac wl.length cc) wl from hC);dsimp only)
   |(refine Kd.S_append_step (Kd.slice 3 (Kd.int .i64)) (w0:=w0) w0.heap.size (by rfl) (.tmp 12) (.tmp 15) 40 24 (.slice none 0 0) 24 (by rfl) Tryz.underlying40 Qf3 (by rfl) (by decide) (by omega) (.slice Ao O.length co) O wl _ (fun k_=>Qt.okX Bp Bo Bw Bq k_∧some k_≠(Value.slice Af wl.length cf).ownBlock) (fun k_=>some k_=(Value.slice Ac wl.length cc).ownBlock) (by rfl) (by rfl) (Kd.M_row (Kd.R_tight rfl (Kd.R_lower HCC.out HI1.out.below.size))) (fun k_ e=>FR.out k_ (Kd.R_base HCC.out k_ e.symm)) (fun k_ hk=>(FR.out k_ (Nat.le_trans B12.out.size hk)).1) (Kd.S_mono (Kd.S_below (Kd.S_bound HI1.out.so) B12.out) (fun k_ hk=>⟨hk.1,fun e=>by have h1:=Kd.R_base HCC.out k_ e.symm;have h2:=hk.2.2.1;omega⟩)) (Qbp HI1.out.below B12.out) (Nat.le_trans HI1.out.below.size B12.out.size) (by have:=HL.out.2;omega) ?_;intro v3 w3 ho3 hb3 hg3 hat3;obtain ⟨A3,c3,e3⟩:=Kd.S_slice ho3;subst e3;have BO3:=Zk (Qc8 (Qbg HI1.out.bo B12.out) hg3 (Kd.S_away HI1.out.so (fun _ hk=>hk.1.2.1)));have BF3:=Zk (Qc8 (Qbg HI1.out.bw B12.out) hg3 (Kd.S_away HI1.out.so (fun _ hk=>hk.1.2.2.1)));have zo3:=Qcs BO3.out 0;have zf3:=Qcs BF3.out 0;have fz3:=Q6 BO3.out 0;have zf4:=Qcs (Qd5 BF3.out (p:=⟨Bo,0,none⟩) NBF.out (.slice A3 (O++ [wl]).length c3)) 0))
 all_goals
  go_wp2
  ((try simp only [Exit.inBlock,Exit.then]);refine bodyPost_ret (results_none rfl _ _ _) rfl ?_)
  exact ⟨rfl,_,HI1.out.push B12.out ho3 hb3 hg3 hat3⟩
open Go.Proofs.YtkgngggppcmpfaaGreat.X in
set_option maxHeartbeats 3200000 in
set_option maxRecDepth 100000 in
theorem Qt.lit (k:Nat) (w0:World) (A0:Option Addr) (c0:Nat) (l0:List Int) (t:Int) (Bp Bo Bw Bq:Nat) (hr0:Kd.C (Kd.int .i64) w0 A0 l0.length l0) (hc0:l0.length≤c0) (ht:Qch.f l0=some t): ∀ (d:Nat) (s:Int) (wl:List Int) (O O':List (List Int)) (K:Nat→Prop) (W1:World) (vW vO:Value) (W:World),Qt.Inv w0 W A0 l0.length c0 Bp Bo Bw Bq K W1 wl vW O vO→Qt.put k l0 t d s wl O=some O'→
 Calls Tryz.prog 343 #[.int .i64 s, .pointer (some ⟨Bp,0,none⟩), .pointer (some ⟨Bo,0,none⟩), .pointer (some ⟨Bw,0,none⟩), .pointer (some ⟨Bq,0,none⟩)] W fun e W'=>e= .returned (.tuple #[])∧ ∃ vW' vO',Qt.Inv w0 W' A0 l0.length c0 Bp Bo Bw Bq K W1 wl vW' O' vO':=by
 intro d
 induction d with
 |zero=>
  intro s wl O O' K W1 vW vO W hI h;rw [Qt.put] at h
  split at h
  ·
   rename_i hi
   split at h
   ·
    rename_i hl;injection h with h
    subst h hi;refine (Qt.lit0 w0 A0 c0 l0 s Bp Bo Bw Bq K W1 vW hr0 hc0 ht wl O vO W hI hl).mono ?_;rintro e W' ⟨he,vO',hI'⟩;exact ⟨he,vW,vO',hI'⟩
   ·
    cases h
  ·
   cases h
 |succ d ih=>
  intro s wl O O' K W1 vW vO W hI h;rw [Qt.put] at h
  by_cases hi:s=t
  ·
   rw [if_pos hi] at h
   split at h
   ·
    rename_i hl;injection h with h
    subst h hi;refine (Qt.lit0 w0 A0 c0 l0 s Bp Bo Bw Bq K W1 vW hr0 hc0 ht wl O vO W hI hl).mono ?_;rintro e W' ⟨he,vO',hI'⟩;exact ⟨he,vW,vO',hI'⟩
   ·
    cases h
  ·
   rw [if_neg hi] at h;have hn_:=Option.bind_eq_some_iff.mp h;clear h;obtain ⟨js,hjs,h⟩:=hn_
   split at h
   ·
    rename_i hjl;have IH:=Zk ih;have HR:=Zk hr0;have HC:=Zk hc0;have HT:=Zk ht;have HJ:=Zk hjs;have HJL:=Zk hjl;have HF:=Zk h;have HI:=Zk hI;have zp:=Qcs hI.bp 0;clear hr0 hc0 hI hjs hjl h ih ht;have hu:=Tryz.underlying26;have hib:(s==t)=false:=beq_eq_false_iff_ne.mpr hi;go_enter Tryz.func343,Tryz.ntmps343;go_wp2_with fail;refine (Qch.calls _ _ l0 t _ (Kd.C_below HR.out HI.out.below) HC.out HT.out).mono ?_;rintro e w1 ⟨rfl,hb⟩;have HI1:=Zk (HI.out.step hb);clear hb HI zp;have zp:=Qcs HI1.out.bp 0;go_wp2_with fail;refine (Qc6.calls k _ _ l0 s js _ (Kd.C_below HR.out HI1.out.below) HC.out HJ.out).mono ?_;rintro e w2 ⟨vJ,rfl,hR,hb⟩;have HRJ:=Zk hR;obtain ⟨AJ,cJ,rfl,hlJ,hCJ⟩:=Kd.R_reads hR;have HI2:=Zk (HI1.out.step hb);have CJ:=Zk hCJ;have SB:=Zk hb.size;clear hb hR hCJ hlJ zp;have FJ:=Zk (show ∀ b,(Value.slice AJ js.length cJ).ownBlock=some b→b<w2.heap.size∧b≠Bo∧b≠Bw∧some b≠vO.ownBlock∧some b≠vW.ownBlock from fun b hb=>by
     have h1:=Kd.R_base HRJ.out b hb;have h2:=Kd.R_lt HRJ.out b hb;refine ⟨h2,by have:=Qd8 HI1.out.bo;omega,by have:=Qd8 HI1.out.bw;omega,fun e=> ?_,fun e=> ?_⟩
     ·
      have:=Kd.S_lt HI1.out.so b e.symm;omega
     ·
      have:=Kd.R_lt HI1.out.rw b e.symm;omega)
    have hk2: ∀ b,(K b∨(Value.slice AJ js.length cJ).ownBlock=some b)→w2.heap[b]? =w2.heap[b]? ∧b<w2.heap.size∧b≠Bo∧b≠Bw∧some b≠vO.ownBlock∧some b≠vW.ownBlock:=fun b hb=>by
     rcases hb with hb|hb
     ·
      exact ⟨rfl,Nat.lt_of_lt_of_le (HI2.out.kp b hb).2.1 HI2.out.ks,(HI2.out.kp b hb).2.2⟩
     ·
      exact ⟨rfl,FJ.out b hb⟩
    have HI3:=Zk (show Qt.Inv w0 w2 A0 l0.length c0 Bp Bo Bw Bq (fun b=>K b∨(Value.slice AJ js.length cJ).ownBlock=some b) w2 wl vW O vO from { HI2.out with ks:=Nat.le_refl _,kp:=hk2 });clear hk2 FJ SB HI1;go_wp2_with fail;have eg:=Qet Tryz.func343 (by kernel_rfl) rfl
    go_loopw [7,21] (fun v7 v21 wi=> ∃ (q:Nat) (O1:List (List Int)) (vW1 vO1:Value),v21= .int .i64 q∧q≤js.length∧Z0 (Qt.loop (Qt.put k l0 t d) s wl (js.drop q) O1=some O')∧Z0 (Qt.Inv w0 wi A0 l0.length c0 Bp Bo Bw Bq (fun b=>K b∨(Value.slice AJ js.length cJ).ownBlock=some b) w2 wl vW1 O1 vO1)) (fun _ v21 _=>js.length - (intOf v21).toNat)
    case atStart=>exact ⟨0,O,vW,vO,rfl,Nat.zero_le _,⟨by rw [List.drop_zero];exact HF.out⟩,HI3⟩
    case round=>
     clear HI3 HF;obtain ⟨q,O1,vW1,vO1,rfl,hq,HA,HI⟩:=hrel
     by_cases hql:q<js.length
     ·
      have hs:=HA.out;rw [List.drop_eq_getElem_cons hql,Qt.loop] at hs
      split at hs
      ·
       rename_i hj;obtain ⟨O2,hO2,hs⟩:=Option.bind_eq_some_iff.mp hs;have HA2:=Zk hs;have HP:=Zk hO2;have HLW:=Zk hj.2;obtain ⟨ad1,e1,hx0⟩:=Kd.at_int CJ.out (q:Int) (by omega) (by omega);rw [Int.toNat_natCast] at hx0;cases e1;have hx:wr.cell? (ad1.add q)=some (.int .i64 js[q]):=by
        rw [Qt.cell_same (w':=w2) (a:=ad1.add q) (by
         have h1:=(HI.out.kp ad1.block (.inr rfl)).1;have h2:(ad1.add q).block=ad1.block:=by cases ad1;cases q<;>rfl
         rw [h2];exact h1),hx0,show rd js (q:Int)=js[q] by simp [rd,List.getD_eq_getElem?_getD,hql]]
       obtain ⟨j,hje⟩: ∃ j,j=js[q] :=⟨_,rfl⟩
       rw [←hje] at hx hj HP;have p4:0≤((q:Nat):Int):=by omega
       have q4:((q:Nat):Int)<(js.length:Int):=by omega
       have p5:=hj.1;have hq1:q+1≤js.length:=hql;have e3:wrap64 ((q:Int)+1)=((q+1:Nat):Int):=by have:=HJL.out;unfold wrap64;omega
       have zf:=Qcs HI.out.bw 0;have fz:=Q6 HI.out.bw 0;have HP:=Zk (show Qt.put k l0 t d (Go.bits .or .i64 s (IntKind.i64.wrap (2 ^ min j.toNat 64))) (wl++ [j]) O1=some O2 by have h:=HP.out;rw [show shl .i64 1 j=IntKind.i64.wrap (2 ^ min j.toNat 64) from by first|rfl|(simp [shl];done)|(simp [shl];rfl)] at h;exact h);clear hje hx0 hs HA hO2 hj;have FK:=Zk (show ∀ k_,wr.heap.size≤k_→Qt.okX Bp Bo Bw Bq k_∧some k_≠vO1.ownBlock from fun k_ hk=>⟨⟨by have:=Qd8 HI.out.bp;omega,by have:=Qd8 HI.out.bo;omega,by have:=Qd8 HI.out.bw;omega,by have:=Qd8 HI.out.bq;omega⟩,fun e=>by have:=Kd.S_lt HI.out.so k_ e.symm;omega⟩);go_wp2_with (first|((with_reducible refine Qu (N:=27) rfl ?_);refine wpList_plain rfl (fun K' hK'=> ?_);unfold Oper.wp;go_simp;refine hK' _ _ ?_;clear hK';at_builtin;refine Kd.R_append (Kd.int .i64) (w0:=w0) w0.heap.size rfl (.tmp 25) (.tmp 27) 24 3 (.int .i64 0) 8 rfl Tryz.underlying24 Qdq rfl (by decide) (by omega) vW1 wl j [.int .i64 j] (fun k_=>Qt.okX Bp Bo Bw Bq k_∧some k_≠vO1.ownBlock) (fun _=>False) rfl rfl ?aP (fun _ hk=>hk.elim) ?aF ?aO ?aB ?aS ?aL ?_;(case aP=>exact rfl);(case aF=>exact fun k_ hk=>FK.out k_ hk);(case aO=>exact HI.out.rw);(case aB=>exact HI.out.below);(case aS=>exact HI.out.below.size);(case aL=>have:=HLW.out;omega);intro v28 w6 ho hb hg hat;obtain ⟨A28,c28,e28⟩:=Kd.R_slice ho;subst e28;rw [show (wl++ [j]).length=wl.length+1 from by simp] at ho hat;have BW6:=Zk (Qc8 HI.out.bw hg (fun e=>(HI.out.rw.1 Bw e.symm).1.2.2.1 rfl));have HI6:=Zk (HI.out.app (Below.refl _ _) ho hb hg hat);have zf6:=Qcs BW6.out 0;have fz6:=Q6 BW6.out 0;have zq6:=Qcs HI6.out.bq 0;clear ho hb hg hat zf fz HI FK))
       go_region_law (first|(rw [if_pos (by rfl)];go_simp;refine (IH.out _ (wl++ [j]) O1 O2 _ _ _ vO1 _ (HI6.out.step (Qdo (Below.refl _ _))).rebase HP.out).mono ?_;rintro e w7 ⟨rfl,vW7,vO7,hI7⟩;have HI7:=Zk (hI7.back (HI6.out.step (Qdo (Below.refl _ _))) (fun b h=>h));clear hI7 HI6;dsimp only))
       all_goals
        obtain ⟨A7,c7,e7⟩:=Kd.R_slice HI7.out.rw;subst e7;have e7n:(wl++ [j]).length=wl.length+1:=by simp
        have q7:((wl.length:Nat):Int)≤(c7:Int):=by have h:=(Kd.R_reads' HI7.out.rw).2.1;rw [e7n] at h;omega
        have q8:0≤((wl.length:Nat):Int):=by omega
        have e8:wrap64 ((wl.length:Nat):Int)=((wl.length:Nat):Int):=by have:=HLW.out;unfold wrap64;omega
        have zf7:=Qcs HI7.out.bw 0;have fz7:=Q6 HI7.out.bw 0;rw [e7n] at zf7;clear e7n;go_wp2;go_roundw
        case rel=>exact ⟨q+1,O2,_,_,by first|rfl|go_num,hq1,HA2,⟨HI7.out.cut⟩⟩
        case measure=>(try simp only [e3]);exact (Nat.sub_lt_sub_left hql (Nat.lt_succ_self q):js.length - (q+1)<js.length - q)
      ·
       cases hs
     ·
      have hs:=HA.out;rw [List.drop_of_length_le (by omega),Qt.loop] at hs;injection hs with hs
      subst hs;clear HA;go_wp2;go_end0;exact ⟨rfl,_,_,HI.out.back HI2.out (fun b hb=> .inl hb)⟩
   ·
    cases h
theorem Qt.asz (w:World) (o:Obj):(w.alloc o).heap.size=w.heap.size+1:=Array.size_push ..
theorem Qt.new (w:World) (o:Obj) {g:Nat} (h:g=w.heap.size):(w.alloc o).heap[g]? =some o:=by subst h;exact Qe9 w o
theorem Qt.lit_R {α:Type} (d:Kd α) {W:World} (base e g:Nat) {xs:List α} {inner:List Value} {ok okp:Nat→Prop} (hrep:Reps (d.M W base okp) d.sz xs inner) (hok: ∀ k,okp k→ok k) (hg:g=W.heap.size) (hfresh:ok g) (hbase:base≤g) (hm:xs.length≤9223372036854775807):
 d.R e (W.alloc (.cells inner.toArray e)) base ok (.slice (some ⟨g,0,none⟩) xs.length xs.length) xs:=by
 subst hg;refine ⟨fun k hk=> ?_,inner,?_,?_⟩
 ·
  have:W.heap.size=k:=by simpa [Value.ownBlock] using hk
  subst this;exact hfresh
 ·
  have h2:=World.ownsRow_lit (base:=base) (e:=e) (size:=d.sz) W inner.toArray xs.length hbase (by simpa [maxLen] using hm) (by simpa using hrep.1)
  simpa using h2
 ·
  refine hrep.imp_ (fun p c hp=>d.M_mono (fun k hk=>⟨hok k hk.1,fun he=> ?_⟩) (Kd.M_below (d.M_bound hp) (Qj (Below.refl _ _) _)));have h3:k=W.heap.size:=by simpa [Value.ownBlock] using he
  have:=hk.2.2.1;omega
theorem Qt.init (w w2:World) (A0:Option Addr) (n c0:Nat) (hb:Below w.heap.size w w2) (hp:w2.heap[w.heap.size]? =some (.cells #[.slice A0 n c0] 26 (0,0))) (W:World)
 (hW:W=((((w2.alloc (.cells #[] 24)).alloc (.cells #[] 3)).alloc (.cells #[.slice (some ⟨w2.heap.size,0,none⟩) 0 0] 40)).alloc (.cells #[.slice (some ⟨w2.heap.size+1,0,none⟩) 0 0] 24)).alloc (.cells #[.func (.func 343) #[] #[.pointer (some ⟨w.heap.size,0,none⟩), .pointer (some ⟨w2.heap.size+1+1,0,none⟩), .pointer (some ⟨w2.heap.size+1+1+1,0,none⟩), .pointer (some ⟨w2.heap.size+1+1+1+1,0,none⟩)]] 166)):
 Qt.Inv w W A0 n c0 w.heap.size (w2.heap.size+1+1) (w2.heap.size+1+1+1) (w2.heap.size+1+1+1+1) (fun _=>False) W [] (.slice (some ⟨w2.heap.size+1,0,none⟩) 0 0) [] (.slice (some ⟨w2.heap.size,0,none⟩) 0 0):=by
 have hl:=Qd8 hp;have hs:=hb.size;have own: ∀ g m c,(Value.slice (some ⟨g,0,none⟩) m c).ownBlock=some g:=fun _ _ _=>rfl
 subst hW;refine ⟨Qj (Qj (Qj (Qj (Qj hb _) _) _) _) _,Qci (Qci (Qci (Qci (Qci hp _) _) _) _) _,?_,?_,?_,?_,?_,by omega,by omega,Nat.le_refl _,fun b h=>h.elim⟩
 ·
  exact Qci (Qci (Qt.new _ _ (by rw [Qt.asz,Qt.asz])) _) _
 ·
  exact Qci (Qt.new _ _ (by rw [Qt.asz,Qt.asz,Qt.asz])) _
 ·
  exact Qt.new _ _ (by rw [Qt.asz,Qt.asz,Qt.asz,Qt.asz])
 ·
  exact Kd.S_alloc (Kd.S_alloc (Kd.S_alloc (Kd.S_alloc (Kd.S_bare (Qt.lit_R (Kd.bare (Kd.slice 3 (Kd.int .i64))) (W:=w2) w.heap.size 24 w2.heap.size (xs:= []) (inner:= []) (okp:=fun _=>False) (Reps.none _ _) (fun _ h=>h.elim) rfl (by rw [own];refine ⟨⟨?_,?_,?_,?_⟩,fun e=> ?_⟩<;>(try injection e)<;>omega) (by omega) (Nat.zero_le _))) _) _) _) _
 ·
  exact Kd.R_alloc (Kd.R_alloc (Kd.R_alloc (Qt.lit_R (Kd.int .i64) (W:=w2.alloc (.cells #[] 24)) w.heap.size 3 (w2.heap.size+1) (xs:= []) (inner:= []) (okp:=fun _=>False) (Reps.none _ _) (fun _ h=>h.elim) (Qt.asz _ _).symm (by rw [own];refine ⟨⟨?_,?_,?_,?_⟩,fun e=> ?_⟩<;>(try injection e)<;>omega) (by omega) (Nat.zero_le _)) _) _) _
open Go.Proofs.YtkgngggppcmpfaaGreat.X in
set_option maxHeartbeats 3200000 in
set_option maxRecDepth 100000 in
theorem Qt.calls (k:Nat) (A0_0:Option Addr) (c0_0:Nat) (l0_0:List Int) (r1:List (List Int)) (r2:Bool) (w:World) (hr0_0:Kd.C (Kd.int .i64) w A0_0 l0_0.length l0_0) (hc0_0:l0_0.length≤c0_0) (h:Qt.f k l0_0=some (r1,r2)):
 Calls Tryz.prog 315 #[.agg #[.slice A0_0 l0_0.length c0_0]] w fun e w'=> ∃ v0_:Value,e= .returned (.tuple #[v0_, .bool r2])∧Kd.S (Kd.slice 3 (Kd.int .i64)) 24 w' w.heap.size (fun _=>True) v0_ r1∧Below w.heap.size w w':=by
 have HR:=Zk hr0_0;have HC:=Zk hc0_0;clear hr0_0 hc0_0;unfold Qt.f at h;obtain ⟨b,hb,h⟩:=Option.bind_eq_some_iff.mp h;have HT:=Zk hb;clear hb;have hu:=Tryz.underlying26;have B0:=Zk (Qj (Below.refl w.heap.size w) (.cells #[.slice A0_0 l0_0.length c0_0] 26));cases b with
 |false=>
  have h':some (([] :List (List Int)),false)=some (r1,r2):=h;injection h' with h'
  injection h' with h1 h2
  subst h1 h2;clear h;go_enter Tryz.func315,Tryz.ntmps315;go_wp2_with fail;refine (Qb2.calls k _ _ l0_0 false _ (Kd.C_below HR.out B0.out) HC.out HT.out).mono ?_;rintro e w1 ⟨rfl,hb⟩;have B1:=Zk (Qbp B0.out hb);clear hb;go_wp2
  go_ret2
  exact ⟨_,rfl,Kd.S_nil _ _ _ _ _,B1.out⟩
 |true=>
  rw [if_pos rfl] at h;obtain ⟨ws,hws,h⟩:=Option.bind_eq_some_iff.mp h
  split at h
  ·
   rename_i hlen;have HW:=Zk hws;have H:=Zk h;clear hws h;go_enter Tryz.func315,Tryz.ntmps315;go_wp2_with fail;refine (Qb2.calls k _ _ l0_0 true _ (Kd.C_below HR.out B0.out) HC.out HT.out).mono ?_;rintro e w1 ⟨rfl,hb⟩;have P1:=Zk (Qbg (Qe9 w (.cells #[.slice A0_0 l0_0.length c0_0] 26)) hb);have x1:=Qcs P1.out 0;have B1:=Zk (Qbp B0.out hb);clear hb;go_wp2_with fail;refine (Qbd.calls k _ _ l0_0 ws _ (Kd.C_below HR.out B1.out) HC.out HW.out).mono ?_;rintro e w2 ⟨v2,rfl,hR,hb⟩;obtain ⟨A2,c2,rfl,hl2,hC2⟩:=Kd.R_reads hR;have P2:=Zk (Qbg P1.out hb);have x2:=Qcs P2.out 0;have B2:=Zk (Qbp B1.out hb);obtain ⟨ad,e1,hx⟩:=Kd.at_int hC2 (0:Int) (by omega) (by omega);cases e1;clear hb hR hl2 hC2 x1 P1;have hx:w2.cell? ad=some (.int .i64 (rd ws 0)):=by
    have h:=hx;rw [show (0:Int).toNat=0 from rfl,show ad.add 0=ad from by first|rfl|(cases ad;rfl)|(cases ad;simp [Addr.add])] at h;exact h
   by_cases hg:rd ws 0>500
   ·
    have h':some (([] :List (List Int)),false)=some (r1,r2):=by have h:=H.out;rw [if_pos hg] at h;exact h
    injection h' with h'
    injection h' with h1 h2
    subst h1 h2;have hg1:decide (500<rd ws 0)=true:=decide_eq_true hg;go_wp2
    go_ret2
    exact ⟨_,rfl,Kd.S_nil _ _ _ _ _,B2.out⟩
   ·
    have h:=H.out;rw [if_neg hg] at h;obtain ⟨t,ht,h⟩:=Option.bind_eq_some_iff.mp h;obtain ⟨O,hO,h⟩:=Option.bind_eq_some_iff.mp h;injection h with h
    injection h with h1 h2
    subst h1 h2;have HP:=Zk ht;have HO:=Zk hO;have hg1:decide (500<rd ws 0)=false:=decide_eq_false hg;clear H ht hO;have eg:=Qet Tryz.func343 (by kernel_rfl) rfl;have hsf: ∀ (a_:Addr) (f_:Fn) (x_ y_:Array Value) (w_:World),(store a_ (.func f_ x_ y_) .plain).run Tryz.prog w_=stored Tryz.prog w_ a_ (.func f_ x_ y_) .plain:=fun a_ f_ x_ y_ w_=>run_store Tryz.prog w_ a_ (.func f_ x_ y_) .plain rfl
    go_wp2_with fail;refine (Qt.lit k w A0_0 c0_0 l0_0 t _ _ _ _ HR.out HC.out HP.out l0_0.length 0 [] [] O _ _ _ _ _ (Qt.init w w2 A0_0 l0_0.length c0_0 B2.out P2.out _ rfl) HO.out).mono ?_;rintro e w4 ⟨rfl,vW4,vO4,hI⟩;obtain ⟨Ao,co,eO⟩:=Kd.S_slice hI.so;subst eO;have zo:=Qcs hI.bo 0;have HS:=Zk (Kd.S_mono hI.so (ok':=fun _=>True) (fun _ _=>trivial));have HB:=Zk hI.below;clear hI;go_wp2
    go_ret2
    exact ⟨_,rfl,HS.out,HB.out⟩
  ·
   cases h
end Go.Proofs.YtkgngggppcmpfaaGreat.L
end
section
namespace Go.Proofs.YtkgngggppcmpfaaGreat.L
open Go.RowKit Go.Proofs.YtkgngggppcmpfaaGreatW.PrintWords Go.Proofs.YtkgngggppcmpfaaGreatW.PrintLast Go.Proofs.YtkgngggppcmpfaaGreatW.PrintMore Go.Proofs.YtkgngggppcmpfaaGreat.X
attribute [local go_sem] Qy Q0 Qbb Qbc Qp Qq Qz Q1
set_option linter.unusedVariables false
set_option linter.unusedSimpArgs false
mutual
def Qbj.l0:Nat→Int→List Int→List (List Int)→Int→Int→Option ((List (List Int)))
 |0,_,_,_,_,_=>none
 |k+1,x1,x2,x7,x11,x12=>if x12<x11 then (if 0≤x1 then (if (x1:Int).toNat≤35184372088832 then (if x7.length<5864062014805 then (Qbj.l0 k x1 x2 (x7++ [(List.replicate (x1:Int).toNat 0)]) x11 (wrap64 (x12+1))) else (none)) else (none)) else (none)) else (Qbj.l1 k x1 x7 x2 (x2.length:Int) 0)
def Qbj.l1:Nat→Int→List (List Int)→List Int→Int→Int→Option ((List (List Int)))
 |0,_,_,_,_,_=>none
 |k+1,x1,x7,x20,x21,x22=>if x22<x21 then (if 0≤x22 then (if x22<(x20.length:Int) then (if x1=0 then (none) else (if 0≤(wrap64 (Int.tdiv (rd x20 x22) x1)) then (if (wrap64 (Int.tdiv (rd x20 x22) x1))<(x7.length:Int) then (if 0≤(Int.tmod (rd x20 x22) x1) then (if (Int.tmod (rd x20 x22) x1)<((Qo x7 (wrap64 (Int.tdiv (rd x20 x22) x1))).length:Int) then (Qbj.l1 k x1 (x7.set ((wrap64 (Int.tdiv (rd x20 x22) x1)):Int).toNat ((Qo x7 (wrap64 (Int.tdiv (rd x20 x22) x1))).set ((Int.tmod (rd x20 x22) x1):Int).toNat x22)) x20 x21 (wrap64 (x22+1))) else (none)) else (none)) else (none)) else (none))) else (none)) else (none)) else (some x7)
end
def Qbj.f (k:Nat) (a0:Int) (a1:Int) (l2:List Int):Option ((List (List Int))):=Qbj.l0 k a1 l2 (([] :List (List Int))) a0 0
theorem Qbj.mono_l: ∀ k,(∀ y0 y1 y2 y3 y4,LeO (Qbj.l0 k y0 y1 y2 y3 y4) (Qbj.l0 (k+1) y0 y1 y2 y3 y4))∧(∀ y0 y1 y2 y3 y4,LeO (Qbj.l1 k y0 y1 y2 y3 y4) (Qbj.l1 (k+1) y0 y1 y2 y3 y4))
 |0=>⟨fun _ _ _ _ _ r h=>by simp [Qbj.l0] at h,fun _ _ _ _ _ r h=>by simp [Qbj.l1] at h⟩
 |k+1=>by
  obtain ⟨ih0,ih1⟩:=Qbj.mono_l k;refine ⟨?_,?_⟩
  all_goals
   intros
   first|unfold Qbj.l0|unfold Qbj.l1
   repeat' (with_reducible first|apply ih0|apply ih1|exact LeO.refl _|exact LeO.none _|refine LeO.ite ?_ ?_|refine LeO.bind ?_ (fun _=> ?_))
theorem Qbj.mono: ∀ a0 a1 a2 k,LeO (Qbj.f k a0 a1 a2) (Qbj.f (k+1) a0 a1 a2):=by
 intro a0 a1 a2 k;obtain ⟨ih0,ih1⟩:=Qbj.mono_l k;unfold Qbj.f
 repeat' (with_reducible first|apply ih0|apply ih1|exact LeO.refl _|exact LeO.none _|refine LeO.ite ?_ ?_|refine LeO.bind ?_ (fun _=> ?_))
def Qbj.T9:Bool × List (List Nat × List Nat):=(true,[([],[]),([],[]),([],[]),([1,2],[1,2]),([0,3],[0,3]),([4],[4]),([],[]),([],[]),([6,7],[6,7]),([],[]),([5,8,0,1,2,3,4,5,6,7,8,9],[5,8]),([10,9,0,1,2,3,4,5,6,7,8,9],[9,10])])
def Qbj.B9:List Nat:= [0,0,0,6,15,31,0,0,192,0,1023,2047]
theorem Qbj.tab9:rtab .any (Qfz Tryz.f316 9)=Qbj.T9:=by kernel_rfl
theorem Qbj.bits9:Qen Qbj.T9.2 Qbj.B9=true:=by kernel_rfl
set_option maxHeartbeats 8000000 in
set_option maxRecDepth 100000 in
theorem Qbj.calls (k:Nat) (a0:Int) (a1:Int) (A2:Option Addr) (c2:Nat) (l2:List Int) (r:List (List Int)) (w:World) (hr2:Kd.C (Kd.int .i64) w A2 l2.length l2) (hc2:l2.length≤c2) (h:Qbj.f k a0 a1 l2=some r):
 Calls Tryz.prog 316 #[.int .i64 a0, .int .i64 a1, .slice A2 l2.length c2] w fun e w'=> ∃ v0_:Value,e= .returned (v0_)∧Kd.S (Kd.slice 3 (Kd.int .i64)) 24 w' w.heap.size (fun _=>True) v0_ r∧Below w.heap.size w w':=by
 have HR2:=Zk hr2;have HC2:=Zk hc2;clear hr2 hc2;have HB:=Zk (Below.refl w.heap.size w);have H:(Qbj.l0 k a1 l2 (([] :List (List Int))) a0 0)=some r:=h;clear h;obtain ⟨y204,hy204⟩: ∃ y_:List (List Int),y_=(([] :List (List Int))):=⟨_,rfl⟩
 replace H:(Qbj.l0 k a1 l2 y204 a0 0)=some r:=by first|(rw [hy204];with_reducible exact H)|(have H2_:=(Option.bind_some _ _).symm.trans H;rw [hy204];with_reducible exact H2_)|(have H2_:=(Option.bind_some _ _).symm.trans H;with_reducible exact H2_)|with_reducible exact H|(rw [hy204];exact H)|exact H
 have Ny204:=Zk hy204;clear hy204;have H':=Zk H;clear H;go_enter Tryz.func316,Tryz.ntmps316;go_wp2_with (first|((with_reducible refine Qu (N:=10) rfl ?_);refine Kd.S_lit (Kd.slice 3 (Kd.int .i64)) _ 24 ?hg (N:=10) ?hd (xs:=([] :List (List Int))) (inner:= []) (ok:=fun _=>True) (okp:=fun _=>True) ?hr ?hp (fun _ hk=>hk) trivial (Below.refl _ _) (Nat.le_refl _) (by simp) ?_;(case hd=>rfl);(case hg=>rfl);(case hr=>first|(go_simp;done)|(go_simp;rfl));(case hp=>exact (Reps.none _ _));intro v205 w4 ho5 hb hg_ hnew_;clear hg_ hnew_;(first|rw [←Ny204.out] at ho5|(simp only [Int.reduceToNat] at ho5;rw [←Ny204.out] at ho5));have HO206:=Zk (Kd.S_lower ho5 (Qh (uB HB)));replace HB:=Zk (Qb (uB HB) hb);clear hb ho5))
 go_loopg [7,12] k (fun kq v7 v12 w'=> ∃ (x7_1:List (List Int)) (x12_1:Int),v12= .int .i64 x12_1∧Z0 (Qbj.l0 kq a1 l2 x7_1 a0 x12_1=some r)∧Z0 (kq≤k)∧Z0 (Kd.S (Kd.slice 3 (Kd.int .i64)) 24 w' w.heap.size (fun _=>True) v7 x7_1)∧Z0 (Below w.heap.size w w'))
 case atStart=>exact ⟨(y204),(0),(by first|rfl|(simp;done)|(simp [*];done)),H',⟨Nat.le_refl _⟩,⟨uS HO206⟩,⟨uB HB⟩⟩
 case round=>
  clear H'
  skip
  obtain ⟨x7_1,x12_1,rfl,HA,HK1,HO_7,HB⟩:=hrel;cases gk with
  |zero=>exact absurd HA.out (by simp [Qbj.l0])
  |succ k1=>
   have H:=HA.out;clear HA;simp only [Qbj.l0] at H
   by_cases c6:x12_1<a0
   ·
    rw [if_pos c6] at H;have c6b0:=decide_eq_true c6;clear c6
    by_cases c7:0≤a1
    ·
     rw [if_pos c7] at H;have c7b0:=eq_true c7;have c7b1:=decide_eq_true c7;clear c7
     by_cases c8:(a1:Int).toNat≤35184372088832
     ·
      rw [if_pos c8] at H;have c8b0:=eq_true c8;have c8b1:=decide_eq_true c8;clear c8;obtain ⟨y207,hy207⟩: ∃ y_:List Int,y_=(List.replicate (a1:Int).toNat 0):=⟨_,rfl⟩
      replace H:(if x7_1.length<5864062014805 then (Qbj.l0 k1 a1 l2 (x7_1++ [y207]) a0 (wrap64 (x12_1+1))) else (none))=some r:=by first|(rw [hy207];with_reducible exact H)|(have H2_:=(Option.bind_some _ _).symm.trans H;rw [hy207];with_reducible exact H2_)|(have H2_:=(Option.bind_some _ _).symm.trans H;with_reducible exact H2_)|with_reducible exact H|(rw [hy207];exact H)|exact H
      have Ny207:=Zk hy207;clear hy207
      by_cases c9:x7_1.length<5864062014805
      ·
       rw [if_pos c9] at H;have LMc9:=Zk c9;clear c9;obtain ⟨y210,hy210⟩: ∃ y_:List (List Int),y_=(x7_1++ [y207]):=⟨_,rfl⟩
       replace H:(Qbj.l0 k1 a1 l2 y210 a0 (wrap64 (x12_1+1)))=some r:=by first|(rw [hy210];with_reducible exact H)|(have H2_:=(Option.bind_some _ _).symm.trans H;rw [hy210];with_reducible exact H2_)|(have H2_:=(Option.bind_some _ _).symm.trans H;with_reducible exact H2_)|with_reducible exact H|(rw [hy210];exact H)|exact H
       have Ny210:=Zk hy210;clear hy210;have H':=Zk H;clear H;go_wp2_with (first|((with_reducible refine Qu (N:=16) rfl ?_);refine Kd.R_make (Kd.int .i64) _ 3 rfl (N:=16) rfl 24 _ _ rfl a1 rfl rfl Tryz.underlying24 (.int .i64 0) 8 Qdq rfl (by decide) (by omega) 0 (ok:=fun _=>True) (okp:=fun _=>True) rfl (fun _ hk=>hk) trivial (of_decide_eq_true (by first|(with_reducible assumption)|assumption)) (Nat.le_trans (Nat.mul_le_mul_right _ (of_decide_eq_true (by first|(with_reducible assumption)|assumption):a1.toNat≤35184372088832)) (by omega)) (Below.refl _ _) (Nat.le_refl _) ?_;intro v208 w10 ho11 hb hg_ hnew_;clear hg_ hnew_;(first|rw [←Ny207.out] at ho11|(simp only [Int.reduceToNat] at ho11;rw [←Ny207.out] at ho11));replace HO_7:=Zk (Kd.S_elder' (uS HO_7) (Kd.R_base ho11) hb);have HO209:=Zk (Kd.R_lower ho11 (Qh (uB HB)));replace HB:=Zk (Qb (uB HB) hb);clear hb ho11;obtain ⟨Ao13,co13,eo13⟩:=Kd.R_slice HO209.out;subst eo13)|((with_reducible refine Qb1 (b:= .append) (xs:= #[.tmp 14, .tmp 17]) rfl ?_);at_builtin;refine Kd.S_append (Kd.slice 3 (Kd.int .i64)) (w0:=w) w.heap.size rfl (.tmp 14) (.tmp 17) 40 24 (.slice none 0 0) 24 rfl Tryz.underlying40 Qf3 rfl (by decide) (by omega) u7 x7_1 y207 [.slice Ao13 y207.length co13] (fun _=>True) (fun k_=>some k_=(.slice Ao13 y207.length co13:Value).ownBlock) rfl rfl ?aP (fun k_ hk_=>((Kd.R_mono (ok':=fun k_=>((fun _=>True)) k_∧some k_≠(u7:Value).ownBlock) (Kd.R_apart' (HO209.out) (Kd.S_typed HO_7.out) (by decide)) (fun k_ hk=>⟨trivial,hk.2⟩))).1 k_ hk_.symm) ?aF ?aO ?aB ?aS ?aL ?_;(case aP=>exact Kd.M_row (Kd.R_mono (Kd.R_tight rfl (Kd.R_mono (ok':=fun k_=>((fun _=>True)) k_∧some k_≠(u7:Value).ownBlock) (Kd.R_apart' (HO209.out) (Kd.S_typed HO_7.out) (by decide)) (fun k_ hk=>⟨trivial,hk.2⟩))) (fun _ h_=>h_)));(case aB=>exact (uB HB));(case aF=>exact (fun _ _=>trivial));(case aO=>exact (by (with_reducible repeat (first|apply Kd.S_alloc|apply Kd.S_drewN|apply Kd.S_drew));exact Kd.S_mono HO_7.out (fun k_ hk=>⟨trivial,fun e_=>hk.2 e_⟩)));(case aS=>exact (Qh (uB HB)));(case aL=>have:=LMc9.out;omega);intro v211 w12 ho hb hg hat;rw [←Ny210.out] at ho;replace HB:=Zk (hb);have HO212:=Zk (ho);clear HO_7 HO209;clear ho hb hg hat));go_roundg k1
       case measure=>have:=HK1.out;omega
       case rel=>exact ⟨(y210),(wrap64 (x12_1+1)),(by first|rfl|(simp;done)|(simp [*];done)),H',⟨by have:=HK1.out;omega⟩,⟨uS HO212⟩,⟨uB HB⟩⟩
      ·
       rw [if_neg c9] at H;exact absurd H (by simp)
     ·
      rw [if_neg c8] at H;exact absurd H (by simp)
    ·
     rw [if_neg c7] at H;exact absurd H (by simp)
   ·
    rw [if_neg c6] at H;have c6b0:=decide_eq_false c6;clear c6;have H':=Zk H;clear H;go_wp2
    go_loopg [22] k1 (fun kq v22 w'=> ∃ (x7_2:List (List Int)) (x22_2:Int),v22= .int .i64 x22_2∧Z0 (Qbj.l1 kq a1 x7_2 l2 (l2.length:Int) x22_2=some r)∧Z0 (kq≤k1)∧Z0 (Kd.S (Kd.slice 3 (Kd.int .i64)) 24 w' w.heap.size (fun _=>True) u7 x7_2)∧Z0 (Below w.heap.size w w'))
    case atStart=>exact ⟨(x7_1),(0),(by first|rfl|(simp;done)|(simp [*];done)),H',⟨Nat.le_refl _⟩,⟨uS HO_7⟩,⟨uB HB⟩⟩
    case round=>
     clear H'
     try clear c6b0
     obtain ⟨x7_2,x22_2,rfl,HA,HK2,HO_7,HB⟩:=hrel;cases gk with
     |zero=>exact absurd HA.out (by simp [Qbj.l1])
     |succ k2=>
      have H:=HA.out;clear HA;simp only [Qbj.l1] at H
      by_cases c14:x22_2<(l2.length:Int)
      ·
       rw [if_pos c14] at H;have c14b0:=decide_eq_true c14;clear c14
       by_cases c15:0≤x22_2
       ·
        rw [if_pos c15] at H;have c15b0:=decide_eq_true c15;clear c15
        by_cases c16:x22_2<(l2.length:Int)
        ·
         rw [if_pos c16] at H;have c16b0:=decide_eq_true c16;clear c16
         by_cases c17:a1=0
         ·
          rw [if_pos c17] at H;exact absurd H (by simp)
         ·
          rw [if_neg c17] at H;have c17b0:(a1==0)=false:=beq_eq_false_iff_ne.mpr c17;have c17b1:(a1 !=0)=true:=bne_iff_ne.mpr c17;obtain ⟨ji18,hji18⟩: ∃ j_:Int,(wrap64 (Int.tdiv (rd l2 x22_2) a1))=j_:=⟨_,rfl⟩
          replace H:(if 0≤(ji18) then (if (ji18)<(x7_2.length:Int) then (if 0≤(Int.tmod (rd l2 x22_2) a1) then (if (Int.tmod (rd l2 x22_2) a1)<((Qo x7_2 (ji18)).length:Int) then (Qbj.l1 k2 a1 (x7_2.set ((ji18):Int).toNat ((Qo x7_2 (ji18)).set ((Int.tmod (rd l2 x22_2) a1):Int).toNat x22_2)) l2 (l2.length:Int) (wrap64 (x22_2+1))) else (none)) else (none)) else (none)) else (none))=some r:=by first|(rw [hji18] at H;exact H)|(simp only [hji18] at H ⊢;exact H)
          have hji18w:(IntKind.i64.wrap (Int.tdiv (rd l2 x22_2) a1))=ji18:=(Qcm _).trans hji18
          by_cases c19:0≤(ji18)
          ·
           rw [if_pos c19] at H;have c19b0:=decide_eq_true c19;clear c19
           by_cases c20:(ji18)<(x7_2.length:Int)
           ·
            rw [if_pos c20] at H;have c20b0:=decide_eq_true c20;clear c20;obtain ⟨ji21,hji21⟩: ∃ j_:Int,(Int.tmod (rd l2 x22_2) a1)=j_:=⟨_,rfl⟩
            replace H:(if 0≤(ji21) then (if (ji21)<((Qo x7_2 (ji18)).length:Int) then (Qbj.l1 k2 a1 (x7_2.set ((ji18):Int).toNat ((Qo x7_2 (ji18)).set ((ji21):Int).toNat x22_2)) l2 (l2.length:Int) (wrap64 (x22_2+1))) else (none)) else (none))=some r:=by first|(rw [hji21] at H;exact H)|(simp only [hji21] at H ⊢;exact H)
            by_cases c22:0≤(ji21)
            ·
             rw [if_pos c22] at H;have c22b0:=decide_eq_true c22;clear c22
             by_cases c23:(ji21)<((Qo x7_2 (ji18)).length:Int)
             ·
              rw [if_pos c23] at H;have c23b0:=decide_eq_true c23;clear c23;obtain ⟨y215,hy215⟩: ∃ y_:List Int,y_=((Qo x7_2 (ji18)).set ((ji21):Int).toNat x22_2):=⟨_,rfl⟩
              replace H:(Qbj.l1 k2 a1 (x7_2.set ((ji18):Int).toNat y215) l2 (l2.length:Int) (wrap64 (x22_2+1)))=some r:=by first|(rw [hy215];with_reducible exact H)|(have H2_:=(Option.bind_some _ _).symm.trans H;rw [hy215];with_reducible exact H2_)|(have H2_:=(Option.bind_some _ _).symm.trans H;with_reducible exact H2_)|with_reducible exact H|(rw [hy215];exact H)|exact H
              have Ny215:=Zk hy215;clear hy215;obtain ⟨y217,hy217⟩: ∃ y_:List (List Int),y_=(x7_2.set ((ji18):Int).toNat y215):=⟨_,rfl⟩
              replace H:(Qbj.l1 k2 a1 y217 l2 (l2.length:Int) (wrap64 (x22_2+1)))=some r:=by first|(rw [hy217];with_reducible exact H)|(have H2_:=(Option.bind_some _ _).symm.trans H;rw [hy217];with_reducible exact H2_)|(have H2_:=(Option.bind_some _ _).symm.trans H;with_reducible exact H2_)|with_reducible exact H|(rw [hy217];exact H)|exact H
              have Ny217:=Zk hy217;clear hy217;have H':=Zk H;clear H;have p213:0≤(x22_2:Int):=of_decide_eq_true (by first|(with_reducible assumption)|assumption);have q213:x22_2<(l2.length:Int):=of_decide_eq_true (by first|(with_reducible assumption)|assumption);obtain ⟨ad213,e213,hx213_0⟩:=Kd.at_int HR2.out x22_2 p213 q213;cases e213;replace hx213_0:=(HB.out.cell (World.block_lt_of_cell? w _ hx213_0)).trans hx213_0;replace p213:=eq_true p213;replace q213:=eq_true q213
              try go_wp2
              replace HO_7:=Zk (Kd.S_drew HO_7.out);replace HB:=Zk (Q2 HB.out);obtain ⟨Ao26,co26,eo26⟩:=Kd.S_slice HO_7.out
              (first|subst eo26|(injection eo26 with f1_ f2_ f3_;have f4_:=f1_.symm;have f5_:=f3_.symm;clear f1_ f2_ f3_;subst f4_;subst f5_))
              have p214:0≤((ji18):Int):=of_decide_eq_true (by first|(with_reducible assumption)|assumption);have q214:(ji18)<(x7_2.length:Int):=of_decide_eq_true (by first|(with_reducible assumption)|assumption);obtain ⟨ad214,A214_0,c214_0,e214,hx214_0,hl214_0,hi214_0⟩:=Qfg (Kd.S_reads' HO_7.out).2.2 (ji18) p214 q214;cases e214;obtain ⟨ce214,hce214,hMe214,hcc214⟩:=Kd.S_get HO_7.out [] (ji18) p214 (by first|exact q214|exact of_decide_eq_true (by first|(with_reducible assumption)|assumption)|(have e_:=(Kd.S_reads' HO_7.out).1;omega));obtain ⟨ve214_0,rfl,ge214_0⟩:=hMe214;have hv214_0:=hcc214 0 _ rfl;rw [Nat.add_zero,show ((Kd.slice 3 (Kd.int .i64))).sz=1 from rfl,Nat.mul_one] at hv214_0;replace hv214_0:=Option.some.inj (hv214_0.symm.trans hx214_0);rw [hv214_0] at ge214_0;have HL214_0:=Zk (show Kd.R (Kd.int .i64) 3 _ _ _ _ (Qo x7_2 (ji18)) from ge214_0);clear hv214_0 ge214_0;have HX214_0:=Zk hx214_0;clear hcc214 hce214;have HR214_0:=Zk hi214_0;have HC214_0:=Zk hl214_0;clear hi214_0 hl214_0;replace p214:=eq_true p214;replace q214:=eq_true q214;have p24:0≤((ji21):Int):=of_decide_eq_true (by first|(with_reducible assumption)|assumption);have q24:((ji21):Int)<(((Qo x7_2 (ji18)).length:Int):Int):=of_decide_eq_true (by first|(with_reducible assumption)|assumption);obtain ⟨go24,co24,eo24,gb24,gl24,cl24,HG24⟩:=Kd.R_form HL214_0.out (by omega)
              (first|cases eo24|(injection eo24 with ea_ en_ ec_;(first|subst ea_|(injection ea_ with ea_;subst ea_));subst ec_;clear en_))
              have GB24:=Zk gb24;have GG24:=Zk HG24;clear gb24 gl24 HG24;obtain ⟨hx24_0,hf24_0⟩:=Kd.R_celln 0 HL214_0.out ((ji21):Int) p24 q24;replace p24:=eq_true p24;replace q24:=eq_true q24;have hq27:((ji18):Int)<(x7_2.length:Int):=(by have h_:((ji18):Int)<((x7_2.length:Int):Int):=of_decide_eq_true (by first|(with_reducible assumption)|assumption);first|exact h_|(have e_:=(Kd.S_reads' HO_7.out).1;omega)|simpa only [List.length_set,List.length_set] using h_)
              obtain ⟨oki27,ce27,hcl27,hM27,hcc27,hok27,hbk27⟩:=Kd.S_borrow HO_7.out [] ((ji18):Int) (of_decide_eq_true (by first|(with_reducible assumption)|assumption)) hq27;obtain ⟨ve27_0,rfl,ge27_0⟩:=hM27;have hv27:=hcc27 0 _ rfl;rw [Nat.add_zero,show ((Kd.slice 3 (Kd.int .i64))).sz=1 from rfl,Nat.mul_one] at hv27;replace hv27:=Option.some.inj (hv27.symm.trans HX214_0.out);subst hv27;clear hcc27 hcl27;replace ge27_0:=(show Kd.R (Kd.int .i64) 3 _ _ _ _ (Qo x7_2 (ji18)) from ge27_0)
              have HP27:=Kd.R_putg ge27_0 ((ji21):Int) x22_2;rw [←Ny215.out] at HP27;have HS27:=hbk27 HP27.2 (fun k_ e_=>by injection e_ with e_;subst e_;exact ge27_0.1 _ rfl) (x':=y215) (Kd.M_row HP27.1);rw [←Ny217.out] at HS27;have HQ27:=Zk HS27;clear HP27 HS27 hbk27 hok27;refine sU (n:=12) (S:=fun w'=>w'.cell? (ad214.add ((ji18)).toNat)=some (.slice (some ⟨go24,0,none⟩) (Qo x7_2 (ji18)).length c214_0)) (ds:= [11]) (hx214_0) (fun hHeld=> ?_);refine Qey Qbj.tab9 Qbj.bits9 (fun HT_ HW_=> ?_);generalize wr.drew=w25 at HO_7 HB GG24 HL214_0 HQ27 HR214_0 HX214_0 hf24_0 hx214_0 hx24_0 hHeld ⊢;refine pU 0 27 ?_;refine pU 1 28 ?_;refine pU 2 29 ?_;refine pU 3 30 ?_;refine pU 4 31 ?_;refine pU 6 33 ?_;refine pU 7 34 ?_;refine pU 8 35 ?_;refine pU 9 36 ?_;refine tU 5 32 hHeld ?_;refine pU 10 37 ?_;refine lU 11 none fun K hK=> ?_
              refine sK ?_;refine hK.out _ _ ?_;clear hK K;refine dU ?_
              try go_wp2
              go_roundg k2
              case measure=>have:=HK1.out;have:=HK2.out;omega
              case rel=>exact ⟨(y217),(wrap64 (x22_2+1)),(by first|rfl|(simp;done)|(simp [*];done)),H',⟨by have:=HK1.out;have:=HK2.out;omega⟩,⟨uS HQ27⟩,⟨(vB HB)⟩⟩
             ·
              rw [if_neg c23] at H;exact absurd H (by simp)
            ·
             rw [if_neg c22] at H;exact absurd H (by simp)
           ·
            rw [if_neg c20] at H;exact absurd H (by simp)
          ·
           rw [if_neg c19] at H;exact absurd H (by simp)
        ·
         rw [if_neg c16] at H;exact absurd H (by simp)
       ·
        rw [if_neg c15] at H;exact absurd H (by simp)
      ·
       rw [if_neg c14] at H;have c14b0:=decide_eq_false c14;clear c14;obtain rfl:=Option.some.inj H;go_wp2
       go_ret
       exact ⟨_,by first|rfl|(simp [Qe,Qf] <;>rfl)|(simp [*,Qe,Qf] <;>rfl),uS HO_7,uB HB⟩
mutual
def Qb8.l0:Nat→Int→Int→List Int→List (List Int)→Int→Int→Option (List Int)
 |0,_,_,_,_,_,_=>none
 |k+1,x0,x1,x7,x19,x20,x21=>if x21<x20 then (if 0≤x21 then (if x21<(x19.length:Int) then ((Qbj.f k x0 x1 (Qo x19 x21)).bind fun t229=>((Qeg.f k t229).bind fun t232=>(Qb8.l1 k x0 x1 x7 t232 x19 x20 x21))) else (none)) else (none)) else (some x7)
def Qb8.l1:Nat→Int→Int→List Int→Int→List (List Int)→Int→Int→Option (List Int)
 |0,_,_,_,_,_,_,_=>none
 |k+1,x0,x1,x7,x10,x19,x20,x21=>if (x7.length:Int)≤x10 then (if x7.length<17592186044416 then (Qb8.l1 k x0 x1 (x7++ [0]) x10 x19 x20 x21) else (none)) else (if 0≤x10 then (if x10<(x7.length:Int) then (Qb8.l0 k x0 x1 (x7.set (x10:Int).toNat (wrap64 ((rd x7 x10)+1))) x19 x20 (wrap64 (x21+1))) else (none)) else (none))
end
def Qb8.f (k:Nat) (a0:Int) (a1:Int):Option (List Int):=(Qco.f k a0 a1).bind fun t218=>((Qt.f k t218).bind fun bt221=>(Qb8.l0 k a0 a1 (([] :List Int)) bt221.1 (bt221.1.length:Int) 0))
theorem Qb8.mono_l: ∀ k,(∀ y0 y1 y2 y3 y4 y5,LeO (Qb8.l0 k y0 y1 y2 y3 y4 y5) (Qb8.l0 (k+1) y0 y1 y2 y3 y4 y5))∧(∀ y0 y1 y2 y3 y4 y5 y6,LeO (Qb8.l1 k y0 y1 y2 y3 y4 y5 y6) (Qb8.l1 (k+1) y0 y1 y2 y3 y4 y5 y6))
 |0=>⟨fun _ _ _ _ _ _ r h=>by simp [Qb8.l0] at h,fun _ _ _ _ _ _ _ r h=>by simp [Qb8.l1] at h⟩
 |k+1=>by
  obtain ⟨ih0,ih1⟩:=Qb8.mono_l k;refine ⟨?_,?_⟩
  all_goals
   intros
   first|unfold Qb8.l0|unfold Qb8.l1
   repeat' (with_reducible first|apply ih0|apply ih1|apply Qt.mono|apply Qeg.mono|apply Qco.mono|apply Qbj.mono|exact LeO.refl _|exact LeO.none _|refine LeO.ite ?_ ?_|refine LeO.bind ?_ (fun _=> ?_))
theorem Qb8.mono: ∀ a0 a1 k,LeO (Qb8.f k a0 a1) (Qb8.f (k+1) a0 a1):=by
 intro a0 a1 k;obtain ⟨ih0,ih1⟩:=Qb8.mono_l k;unfold Qb8.f
 repeat' (with_reducible first|apply ih0|apply ih1|apply Qt.mono|apply Qeg.mono|apply Qco.mono|apply Qbj.mono|exact LeO.refl _|exact LeO.none _|refine LeO.ite ?_ ?_|refine LeO.bind ?_ (fun _=> ?_))
set_option maxHeartbeats 8000000 in
set_option maxRecDepth 100000 in
theorem Qb8.calls (k:Nat) (a0:Int) (a1:Int) (r:List Int) (w:World) (h:Qb8.f k a0 a1=some r):
 Calls Tryz.prog 254 #[.int .i64 a0, .int .i64 a1] w fun e w'=> ∃ v0_:Value,e= .returned (v0_)∧Kd.R (Kd.int .i64) 3 w' w.heap.size (fun _=>True) v0_ r∧Below w.heap.size w w':=by
 have HB:=Zk (Below.refl w.heap.size w);have H:((Qco.f k a0 a1).bind fun t218=>((Qt.f k t218).bind fun bt221=>(Qb8.l0 k a0 a1 (([] :List Int)) bt221.1 (bt221.1.length:Int) 0)))=some r:=h;clear h;obtain ⟨t218,A3,H⟩:=bs H;(try dsimp only at H)
 obtain ⟨⟨t221,t224⟩,A4,H⟩:=bs H;(try dsimp only at H)
 obtain ⟨y225,hy225⟩: ∃ y_:List Int,y_=(([] :List Int)):=⟨_,rfl⟩
 replace H:(Qb8.l0 k a0 a1 y225 t221 (t221.length:Int) 0)=some r:=by first|(rw [hy225];with_reducible exact H)|(have H2_:=(Option.bind_some _ _).symm.trans H;rw [hy225];with_reducible exact H2_)|(have H2_:=(Option.bind_some _ _).symm.trans H;with_reducible exact H2_)|with_reducible exact H|(rw [hy225];exact H)|exact H
 have Ny225:=Zk hy225;clear hy225;have H':=Zk H;clear H;go_enter Tryz.func254,Tryz.ntmps254;go_wp2_with (first|(refine gA (some 14) Tryz.func229 #[.int .i64 a0, .int .i64 a1] ?_;(with_reducible refine (Qco.calls k a0 a1 t218 _ A3.out).mono ?_);rintro e w5 ⟨v219,rfl,ho0,hb⟩;refine ⟨_,rfl,?_⟩;have HO220:=Zk (Kd.R_lower ho0 (Qh (uB HB)));replace HB:=Zk (Qb (uB HB) hb);(try clear hb ho0);obtain ⟨Ao6,co6,eo6⟩:=Kd.R_slice HO220.out;subst eo6)|(refine gA (some 15) Tryz.func315 #[.agg #[.slice Ao6 t218.length co6]] ?_;(with_reducible refine (Qt.calls k _ _ t218 t221 t224 _ (uE HO220) ?side2 A4.out).mono ?_);(case side2=>exact (Kd.R_reads' HO220.out).2.1);rintro e w7 ⟨v222,rfl,ho0,hb⟩;refine ⟨_,rfl,?_⟩;have HO223:=Zk (Kd.S_lower (Kd.S_new' ho0 (Kd.R_lt (uR HO220))) (Qh (uB HB)));replace HO220:=Zk (Kd.R_below (uR HO220) hb);replace HB:=Zk (Qb (uB HB) hb);(try clear hb ho0))|((with_reducible refine Qu (N:=18) rfl ?_);refine Kd.R_lit (Kd.int .i64) _ 3 ?hg (N:=18) ?hd (xs:=([] :List Int)) (inner:= []) (ok:=fun _=>True) (okp:=fun _=>True) ?hr ?hp (fun _ hk=>hk) trivial (Below.refl _ _) (Nat.le_refl _) (by simp) ?_;(case hd=>rfl);(case hg=>rfl);(case hr=>first|(go_simp;done)|(go_simp;rfl));(case hp=>exact (Reps.none _ _));intro v226 w8 ho9 hb hg_ hnew_;clear hg_ hnew_;(first|rw [←Ny225.out] at ho9|(simp only [Int.reduceToNat] at ho9;rw [←Ny225.out] at ho9));replace HO223:=Zk (Kd.S_elder' (uS HO223) (Kd.R_base ho9) hb);have HO227:=Zk (Kd.R_lower (Kd.R_new' ho9 (Kd.R_lt (uR HO220))) (Qh (uB HB)));replace HO220:=Zk (Kd.R_elder' (uR HO220) (Kd.R_base ho9) hb);replace HB:=Zk (Qb (uB HB) hb);clear hb ho9;obtain ⟨Ao10,co10,eo10⟩:=Kd.S_slice HO223.out;subst eo10))
 go_loopg [7,21] k (fun kq v7 v21 w'=> ∃ (x7_1:List Int) (x21_1:Int),v21= .int .i64 x21_1∧Z0 (Qb8.l0 kq a0 a1 x7_1 t221 (t221.length:Int) x21_1=some r)∧Z0 (kq≤k)∧Z0 (Kd.R (Kd.int .i64) 3 w' w.heap.size (fun _=>True) v7 x7_1)∧Z0 (Kd.S (Kd.slice 3 (Kd.int .i64)) 24 w' w.heap.size (fun k_=>some k_≠(v7:Value).ownBlock) (.slice Ao10 t221.length co10) t221)∧Z0 (Below w.heap.size w w'))
 case atStart=>exact ⟨(y225),(0),(by first|rfl|(simp;done)|(simp [*];done)),H',⟨Nat.le_refl _⟩,⟨Kd.R_mono (uR HO227) (fun _ hk=>trivial)⟩,⟨by (with_reducible repeat (first|apply Kd.S_alloc|apply Kd.S_drewN|apply Kd.S_drew));exact Kd.S_mono HO223.out (fun _ hk=>hk.2)⟩,⟨uB HB⟩⟩
 case round=>
  clear H'
  skip
  obtain ⟨x7_1,x21_1,rfl,HA,HK1,HO_7,HO_19,HB⟩:=hrel;cases gk with
  |zero=>exact absurd HA.out (by simp [Qb8.l0])
  |succ k1=>
   have H:=HA.out;clear HA;simp only [Qb8.l0] at H
   by_cases c11:x21_1<(t221.length:Int)
   ·
    rw [if_pos c11] at H;have c11b0:=decide_eq_true c11;clear c11
    by_cases c12:0≤x21_1
    ·
     rw [if_pos c12] at H;have c12b0:=decide_eq_true c12;clear c12
     by_cases c13:x21_1<(t221.length:Int)
     ·
      rw [if_pos c13] at H;have c13b0:=decide_eq_true c13;clear c13;obtain ⟨t229,A14,H⟩:=bs H;(try dsimp only at H)
      obtain ⟨t232,A15,H⟩:=bs H;(try dsimp only at H)
      have H':=Zk H;clear H;have p228:0≤(x21_1:Int):=of_decide_eq_true (by first|(with_reducible assumption)|assumption);have q228:x21_1<(t221.length:Int):=of_decide_eq_true (by first|(with_reducible assumption)|assumption);obtain ⟨ad228,A228_0,c228_0,e228,hx228_0,hl228_0,hi228_0⟩:=Qfg (Kd.S_reads' HO_19.out).2.2 x21_1 p228 q228;cases e228;obtain ⟨ce228,hce228,hMe228,hcc228⟩:=Kd.S_get HO_19.out [] x21_1 p228 (by first|exact q228|exact of_decide_eq_true (by first|(with_reducible assumption)|assumption)|(have e_:=(Kd.S_reads' HO_19.out).1;omega));obtain ⟨ve228_0,rfl,ge228_0⟩:=hMe228;have hv228_0:=hcc228 0 _ rfl;rw [Nat.add_zero,show ((Kd.slice 3 (Kd.int .i64))).sz=1 from rfl,Nat.mul_one] at hv228_0;replace hv228_0:=Option.some.inj (hv228_0.symm.trans hx228_0);rw [hv228_0] at ge228_0;have HL228_0:=Zk (show Kd.R (Kd.int .i64) 3 _ _ _ _ (Qo t221 x21_1) from ge228_0);clear hv228_0 ge228_0;clear hcc228 hce228;have HR228_0:=Zk hi228_0;have HC228_0:=Zk hl228_0;clear hi228_0 hl228_0;replace p228:=eq_true p228;replace q228:=eq_true q228;go_wp2_with (first|(refine gA (some 28) Tryz.func316 #[.int .i64 a0, .int .i64 a1, .slice A228_0 (Qo t221 x21_1).length c228_0] ?_;(with_reducible refine (Qbj.calls k1 a0 a1 _ _ (Qo t221 x21_1) t229 _ ?side1 HC228_0.out A14.out).mono ?_);(case side1=>repeat (first|exact (by repeat (first|(with_reducible exact HR228_0.out)|(with_reducible refine Kd.C_alloc ?_ _)|(with_reducible refine Kd.C_drewN ?_ _)|(with_reducible refine Kd.C_drew ?_)|exact HR228_0.out))|(with_reducible refine Kd.C_alloc ?_ _)|(with_reducible refine Kd.C_drewN ?_ _)|(with_reducible refine Kd.C_drew ?_)));rintro e w16 ⟨v230,rfl,ho0,hb⟩;refine ⟨_,rfl,?_⟩;have HO231:=Zk (Kd.S_lower (Kd.S_new' (Kd.S_new' (Kd.S_new' ho0 (Kd.R_lt (uR HO_7))) (Kd.S_lt (uS HO_19))) (Kd.R_lt (uR HL228_0))) (Qh (uB HB)));replace HO_7:=Zk (Kd.R_below (uR HO_7) hb);replace HO_19:=Zk (Kd.S_elder' (uS HO_19) (Kd.S_base ho0) hb);replace HL228_0:=Zk (Kd.R_below (uR HL228_0) hb);replace HR228_0:=Zk (Kd.C_below (by repeat (first|(with_reducible exact HR228_0.out)|(with_reducible refine Kd.C_alloc ?_ _)|(with_reducible refine Kd.C_drewN ?_ _)|(with_reducible refine Kd.C_drew ?_)|exact HR228_0.out)) hb);replace HB:=Zk (Qb (uB HB) hb);(try clear hb ho0);obtain ⟨Ao17,co17,eo17⟩:=Kd.S_slice HO231.out;subst eo17)|(refine gA (some 29) Tryz.func259 #[.slice Ao17 t229.length co17] ?_;(with_reducible refine (Qeg.calls k1 _ _ t229 t232 _ ?side1 ?side2 A15.out).mono ?_);(case side1=>repeat (first|exact (Kd.S_reads' HO231.out).2.2|(with_reducible refine Kd.C_alloc ?_ _)|(with_reducible refine Kd.C_drewN ?_ _)|(with_reducible refine Kd.C_drew ?_)));(case side2=>exact (Kd.S_reads' HO231.out).2.1);rintro e w18 ⟨rfl,hb⟩;refine ⟨_,rfl,?_⟩;replace HO_7:=Zk (Kd.R_below (uR HO_7) hb);replace HO_19:=Zk (Kd.S_below (uS HO_19) hb);replace HL228_0:=Zk (Kd.R_below (uR HL228_0) hb);replace HO231:=Zk (Kd.S_below (uS HO231) hb);replace HR228_0:=Zk (Kd.C_below (by repeat (first|(with_reducible exact HR228_0.out)|(with_reducible refine Kd.C_alloc ?_ _)|(with_reducible refine Kd.C_drewN ?_ _)|(with_reducible refine Kd.C_drew ?_)|exact HR228_0.out)) hb);replace HB:=Zk (Qb (uB HB) hb);(try clear hb)))
      go_loopg [7] k1 (fun kq v7 w'=> ∃ (x7_2:List Int),Z0 (Qb8.l1 kq a0 a1 x7_2 t232 t221 (t221.length:Int) x21_1=some r)∧Z0 (kq≤k1)∧Z0 (Kd.R (Kd.int .i64) 3 w' w.heap.size (fun _=>True) v7 x7_2)∧Z0 (Kd.S (Kd.slice 3 (Kd.int .i64)) 24 w' w.heap.size (fun k_=>some k_≠(v7:Value).ownBlock) (.slice (some ad228) t221.length co10) t221)∧Z0 (Below w.heap.size w w'))
      case atStart=>exact ⟨(x7_1),H',⟨Nat.le_refl _⟩,⟨uR HO_7⟩,⟨by (with_reducible repeat (first|apply Kd.S_alloc|apply Kd.S_drewN|apply Kd.S_drew));exact Kd.S_mono HO_19.out (fun _ hk=>hk.1)⟩,⟨uB HB⟩⟩
      case round=>
       clear H'
       try clear c11b0 c12b0 c13b0 hx228_0 p228 q228
       obtain ⟨x7_2,HA,HK2,HO_7,HO_19,HB⟩:=hrel;cases gk with
       |zero=>exact absurd HA.out (by simp [Qb8.l1])
       |succ k2=>
        have H:=HA.out;clear HA;simp only [Qb8.l1] at H
        by_cases c19:(x7_2.length:Int)≤t232
        ·
         rw [if_pos c19] at H;have c19b0:=decide_eq_true c19;clear c19
         by_cases c20:x7_2.length<17592186044416
         ·
          rw [if_pos c20] at H;have LMc20:=Zk c20;clear c20;obtain ⟨y233,hy233⟩: ∃ y_:List Int,y_=(x7_2++ [0]):=⟨_,rfl⟩
          replace H:(Qb8.l1 k2 a0 a1 y233 t232 t221 (t221.length:Int) x21_1)=some r:=by first|(rw [hy233];with_reducible exact H)|(have H2_:=(Option.bind_some _ _).symm.trans H;rw [hy233];with_reducible exact H2_)|(have H2_:=(Option.bind_some _ _).symm.trans H;with_reducible exact H2_)|with_reducible exact H|(rw [hy233];exact H)|exact H
          have Ny233:=Zk hy233;clear hy233;have H':=Zk H;clear H;obtain ⟨Ao21,co21,eo21⟩:=Kd.R_slice HO_7.out;subst eo21;go_wp2_with (first|((with_reducible refine Qb1 (b:= .append) (xs:= #[.tmp 34, .tmp 35]) rfl ?_);at_builtin;refine Kd.R_append (Kd.int .i64) (w0:=w) w.heap.size rfl (.tmp 34) (.tmp 35) 24 3 (.int .i64 0) 8 rfl Tryz.underlying24 Qdq rfl (by decide) (by omega) (.slice Ao21 x7_2.length co21) x7_2 0 [.int .i64 0] (fun _=>True) (fun _=>False) rfl rfl ?aP (fun _ hk=>hk.elim) ?aF ?aO ?aB ?aS ?aL ?_;(case aP=>exact rfl);(case aB=>exact (uB HB));(case aF=>exact (fun _ _=>trivial));(case aO=>exact (uR HO_7));(case aS=>exact (Qh (uB HB)));(case aL=>have:=LMc20.out;omega);intro v234 w22 ho hb hg hat;rw [←Ny233.out] at ho;replace HO_19:=Zk (Kd.S_after (ok:=(fun _=>True)) (by (with_reducible repeat (first|apply Kd.S_alloc|apply Kd.S_drewN|apply Kd.S_drew));exact Kd.S_mono HO_19.out (fun _ hk=>⟨trivial,hk⟩)) hg hat);replace HB:=Zk (hb);have HO235:=Zk (ho);clear HO_7;clear ho hb hg hat));go_roundg k2
          case measure=>have:=HK1.out;have:=HK2.out;omega
          case rel=>exact ⟨(y233),H',⟨by have:=HK1.out;have:=HK2.out;omega⟩,⟨uR HO235⟩,⟨by (with_reducible repeat (first|apply Kd.S_alloc|apply Kd.S_drewN|apply Kd.S_drew));exact Kd.S_mono HO_19.out (fun _ hk=>hk.2)⟩,⟨uB HB⟩⟩
         ·
          rw [if_neg c20] at H;exact absurd H (by simp)
        ·
         rw [if_neg c19] at H;have c19b0:=decide_eq_false c19;clear c19
         by_cases c23:0≤t232
         ·
          rw [if_pos c23] at H;have c23b0:=decide_eq_true c23;clear c23
          by_cases c24:t232<(x7_2.length:Int)
          ·
           rw [if_pos c24] at H;have c24b0:=decide_eq_true c24;clear c24;obtain ⟨y237,hy237⟩: ∃ y_:List Int,y_=(x7_2.set (t232:Int).toNat (wrap64 ((rd x7_2 t232)+1))):=⟨_,rfl⟩
           replace H:(Qb8.l0 k2 a0 a1 y237 t221 (t221.length:Int) (wrap64 (x21_1+1)))=some r:=by first|(rw [hy237];with_reducible exact H)|(have H2_:=(Option.bind_some _ _).symm.trans H;rw [hy237];with_reducible exact H2_)|(have H2_:=(Option.bind_some _ _).symm.trans H;with_reducible exact H2_)|with_reducible exact H|(rw [hy237];exact H)|exact H
           have Ny237:=Zk hy237;clear hy237;have H':=Zk H;clear H;obtain ⟨Ao26,co26,eo26⟩:=Kd.R_slice HO_7.out;subst eo26;have p236:0≤(t232:Int):=of_decide_eq_true (by first|(with_reducible assumption)|assumption);have q236:t232<(x7_2.length:Int):=of_decide_eq_true (by first|(with_reducible assumption)|assumption);obtain ⟨ad236,e236,hx236_0⟩:=Kd.at_int (Kd.R_reads' HO_7.out).2.2 t232 p236 q236;cases e236;replace p236:=eq_true p236;replace q236:=eq_true q236;have p25:0≤(t232:Int):=of_decide_eq_true (by first|(with_reducible assumption)|assumption);have q25:(t232:Int)<((x7_2.length:Int):Int):=of_decide_eq_true (by first|(with_reducible assumption)|assumption);obtain ⟨go25,co25,eo25,gb25,gl25,cl25,HG25⟩:=Kd.R_form HO_7.out (by omega)
           (first|cases eo25|(injection eo25 with ea_ en_ ec_;(first|subst ea_|(injection ea_ with ea_;subst ea_));subst ec_;clear en_))
           have GB25:=Zk gb25;have GG25:=Zk HG25;clear gb25 gl25 HG25
           (first|simp only [Qd2] at hx236_0|skip)
           obtain ⟨hx25_0,hf25_0⟩:=Kd.R_celln 0 HO_7.out (t232:Int) p25 q25;replace p25:=eq_true p25;replace q25:=eq_true q25;have HP27:=Kd.R_putg HO_7.out (t232:Int) (wrap64 ((rd x7_2 t232)+1));go_wp2_with (first|((with_reducible refine Qer (t:=3) (p:=42) rfl ?_);refine Qel (t:=3) (p:=42) (v:= ?vo_w28) (w1:=(wr.setCell ⟨go25,(t232:Int).toNat,none⟩ (.int .i64 (wrap64 ((rd x7_2 t232)+1))))) ?hg ?ho ?hn ?hr ?_;(case ho=>rfl);(case hg=>rfl);(case hn=>rfl);(case hr=>first|(go_simp;done)|(go_simp;rfl));intro w28 hw;have hg:wr.grownBy w28 (some go25):=(by rw [hw];exact HP27.2);have hp_:Kd.R (Kd.int .i64) 3 w28 w.heap.size (fun _=>True) (.slice (some ⟨go25,0,none⟩) x7_2.length co26) y237:=(by rw [hw,Ny237.out];exact HP27.1);clear HP27;replace HO_7:=Zk (hp_);replace HO_19:=Zk (Kd.S_after (v:=(.slice (some ⟨go25,0,none⟩) x7_2.length co26)) (v1:=(.slice (some ⟨go25,0,none⟩) x7_2.length co26)) (ok:=(fun _=>True)) (by (with_reducible repeat (first|apply Kd.S_alloc|apply Kd.S_drewN|apply Kd.S_drew));exact Kd.S_mono HO_19.out (fun _ hk=>⟨trivial,hk⟩)) hg (.inl rfl));replace HB:=Zk ((by rw [hw];exact Qbt (HB.out) GB25.out:Below w.heap.size w w28));clear hg hw hp_));go_roundg k2
           case measure=>have:=HK1.out;have:=HK2.out;omega
           case rel=>exact ⟨(y237),(wrap64 (x21_1+1)),(by first|rfl|(simp;done)|(simp [*];done)),H',⟨by have:=HK1.out;have:=HK2.out;omega⟩,⟨uR HO_7⟩,⟨by (with_reducible repeat (first|apply Kd.S_alloc|apply Kd.S_drewN|apply Kd.S_drew));exact Kd.S_mono HO_19.out (fun _ hk=>hk.2)⟩,⟨uB HB⟩⟩
          ·
           rw [if_neg c24] at H;exact absurd H (by simp)
         ·
          rw [if_neg c23] at H;exact absurd H (by simp)
     ·
      rw [if_neg c13] at H;exact absurd H (by simp)
    ·
     rw [if_neg c12] at H;exact absurd H (by simp)
   ·
    rw [if_neg c11] at H;have c11b0:=decide_eq_false c11;clear c11;obtain rfl:=Option.some.inj H;go_wp2
    go_ret
    exact ⟨_,by first|rfl|(simp [Qe,Qf] <;>rfl)|(simp [*,Qe,Qf] <;>rfl),uR HO_7,uB HB⟩
def Qcw.f (k:Nat) (a0:Int) (a1:Int):Option (List Int × Bool):=(Qdm.f a0 a1 10).bind fun t238=>(if t238=true then ((Qb8.f k a0 a1).bind fun t239=>(if 0≤(wrap64 ((wrap64 (Int.tdiv (wrap64 (a0*(wrap64 (a0 - 1)))) 2))*a1)) then (if (wrap64 ((wrap64 (Int.tdiv (wrap64 (a0*(wrap64 (a0 - 1)))) 2))*a1))≤(t239.length:Int) then (some ((t239.drop ((wrap64 ((wrap64 (Int.tdiv (wrap64 (a0*(wrap64 (a0 - 1)))) 2))*a1)):Int).toNat),true)) else (none)) else (none))) else (some (([] :List Int),false)))
theorem Qcw.mono: ∀ a0 a1 k,LeO (Qcw.f k a0 a1) (Qcw.f (k+1) a0 a1):=by
 intro a0 a1 k;unfold Qcw.f
 repeat' (with_reducible first|apply Qb8.mono|exact LeO.refl _|exact LeO.none _|refine LeO.ite ?_ ?_|refine LeO.bind ?_ (fun _=> ?_))
set_option maxHeartbeats 8000000 in
set_option maxRecDepth 100000 in
theorem Qcw.calls (k:Nat) (a0:Int) (a1:Int) (r1:List Int) (r2:Bool) (w:World) (h:Qcw.f k a0 a1=some (r1,r2)):
 Calls Tryz.prog 119 #[.int .i64 a0, .int .i64 a1] w fun e w'=> ∃ v0_:Value,e= .returned (.tuple #[v0_, .bool r2])∧Kd.Q (Kd.int .i64) 3 w' w.heap.size (fun _=>True) v0_ r1∧Below w.heap.size w w':=by
 have HB:=Zk (Below.refl w.heap.size w);have H:((Qdm.f a0 a1 10).bind fun t238=>(if t238=true then ((Qb8.f k a0 a1).bind fun t239=>(if 0≤(wrap64 ((wrap64 (Int.tdiv (wrap64 (a0*(wrap64 (a0 - 1)))) 2))*a1)) then (if (wrap64 ((wrap64 (Int.tdiv (wrap64 (a0*(wrap64 (a0 - 1)))) 2))*a1))≤(t239.length:Int) then (some ((t239.drop ((wrap64 ((wrap64 (Int.tdiv (wrap64 (a0*(wrap64 (a0 - 1)))) 2))*a1)):Int).toNat),true)) else (none)) else (none))) else (some (([] :List Int),false))))=some (r1,r2):=h;clear h;obtain ⟨t238,A3,H⟩:=bs H;(try dsimp only at H)
 by_cases c4:t238=true
 ·
  subst c4;rw [if_pos rfl] at H;obtain ⟨t239,A5,H⟩:=bs H;(try dsimp only at H)
  obtain ⟨ji6,hji6⟩: ∃ j_:Int,(wrap64 ((wrap64 (Int.tdiv (wrap64 (a0*(wrap64 (a0 - 1)))) 2))*a1))=j_:=⟨_,rfl⟩
  replace H:(if 0≤(ji6) then (if (ji6)≤(t239.length:Int) then (some ((t239.drop ((ji6):Int).toNat),true)) else (none)) else (none))=some (r1,r2):=by first|(rw [hji6] at H;exact H)|(simp only [hji6] at H ⊢;exact H)
  (try rw [hji6] at A3)
  (try rw [hji6] at A5)
  have hji6w:(IntKind.i64.wrap ((wrap64 (Int.tdiv (wrap64 (a0*(wrap64 (a0 - 1)))) 2))*a1))=ji6:=(Qcm _).trans hji6
  by_cases c7:0≤(ji6)
  ·
   rw [if_pos c7] at H;have c7b0:=eq_true c7;have c7b1:=decide_eq_true c7;clear c7
   by_cases c8:(ji6)≤(t239.length:Int)
   ·
    rw [if_pos c8] at H;have c8b0:=eq_true c8;have c8b1:=decide_eq_true c8;clear c8;obtain ⟨y242,hy242⟩: ∃ y_:List Int,y_=(t239.drop ((ji6):Int).toNat):=⟨_,rfl⟩
    replace H:(some (y242,true))=some (r1,r2):=by first|(rw [hy242];with_reducible exact H)|(have H2_:=(Option.bind_some _ _).symm.trans H;rw [hy242];with_reducible exact H2_)|(have H2_:=(Option.bind_some _ _).symm.trans H;with_reducible exact H2_)|with_reducible exact H|(rw [hy242];exact H)|exact H
    have Ny242:=Zk hy242;clear hy242;simp only [Option.some.injEq,Prod.mk.injEq] at H;obtain ⟨rfl,rfl⟩:=H;go_enter Tryz.func119,Tryz.ntmps119;go_wp2_with (first|(refine gA (some 8) Tryz.func206 #[.int .i64 a0, .int .i64 a1, .int .i64 10] ?_;(with_reducible refine (Qdm.calls a0 a1 10 true _ A3.out).mono ?_);rintro e w' ⟨rfl,⟨nd,rfl⟩⟩;refine ⟨_,rfl,?_⟩)|(refine gA (some 12) Tryz.func254 #[.int .i64 a0, .int .i64 a1] ?_;(with_reducible refine (Qb8.calls k a0 a1 t239 _ A5.out).mono ?_);rintro e w9 ⟨v240,rfl,ho0,hb⟩;refine ⟨_,rfl,?_⟩;have HO241:=Zk (Kd.R_lower ho0 (Qh (uB HB)));replace HB:=Zk (Qb (uB HB) hb);(try clear hb ho0);obtain ⟨Ao10,co10,eo10⟩:=Kd.R_slice HO241.out;subst eo10;have q11:((ji6):Int)≤((t239.length:Int):Int):=of_decide_eq_true (by first|(with_reducible assumption)|assumption);obtain ⟨i011,hi011,_,hsz11,_⟩:=info_parts Qdq;have hcut11:=cut_from (P:=Tryz.prog) 24 3 .i64 Tryz.underlying24 hi011 1 hsz11 Ao10 t239.length co10 (ji6) (of_decide_eq_true (by first|(with_reducible assumption)|assumption)) q11;have hr11:=Kd.Q_drop (k:=((ji6):Int).toNat) (Kd.Q_of_R HO241.out) (by omega);obtain ⟨A11,hA11⟩: ∃ A1,A1=(if co10=((ji6):Int).toNat then Ao10 else (Ao10:Option Addr).map (·.add (((ji6):Int).toNat*1))):=⟨_,rfl⟩;obtain ⟨c11,hc11⟩: ∃ c1,c1=co10 - ((ji6):Int).toNat:=⟨_,rfl⟩;have hy11:y242.length=t239.length - ((ji6):Int).toNat:=(by rw [Ny242.out,List.length_drop]);rw [←Ny242.out] at hr11;rw [←hy11,←hA11,←hc11] at hcut11;replace hr11:Kd.Q (Kd.int .i64) 3 w9 w.heap.size (fun _=>True) (.slice A11 y242.length c11) y242:=(by rw [hA11,hc11,hy11];exact hr11);have HE11:Z0 ((Value.slice A11 y242.length c11).ownBlock=(.slice Ao10 t239.length co10:Value).ownBlock):=⟨by rw [hA11];split<;>(cases (Ao10:Option Addr)<;>first|rfl|exact congrArg some (Qfb _ _))⟩;clear hy11 hi011 hsz11 HO241 hA11 hc11;have HO244:=Zk hr11;clear hr11;replace q11:=eq_true q11))
    go_ret2
    exact ⟨_,by first|rfl|(simp [Qe,Qf] <;>rfl)|(simp only [←hji6];first|rfl|(simp [Qe,Qf] <;>rfl))|(simp [*,Qe,Qf] <;>rfl),by (with_reducible repeat (first|apply Kd.Q_alloc|apply Kd.Q_drewN|apply Kd.Q_drew));exact HO244.out,uB HB⟩
   ·
    rw [if_neg c8] at H;exact absurd H (by simp)
  ·
   rw [if_neg c7] at H;exact absurd H (by simp)
 ·
  replace c4:=Bool.eq_false_iff.mpr c4;subst c4;rw [if_neg (show ¬ (false=true) by decide)] at H;simp only [Option.some.injEq,Prod.mk.injEq] at H;obtain ⟨rfl,rfl⟩:=H;go_enter Tryz.func119,Tryz.ntmps119;go_wp2_with (first|(refine gA (some 8) Tryz.func206 #[.int .i64 a0, .int .i64 a1, .int .i64 10] ?_;(with_reducible refine (Qdm.calls a0 a1 10 false _ A3.out).mono ?_);rintro e w' ⟨rfl,⟨nd,rfl⟩⟩;refine ⟨_,rfl,?_⟩))
  go_ret2
  exact ⟨_,by first|rfl|(simp [Qe,Qf] <;>rfl)|(simp [*,Qe,Qf] <;>rfl),Kd.Q_of_R (by first|exact Kd.R_nil _ _ _ _ _|exact Kd.N_nil _ _ _ _ _|exact Kd.V_nil _ _ _ _ _|exact Kd.Q_nil _ _ _ _ _|exact Kd.S_nil _ _ _ _ _),uB HB⟩
end Go.Proofs.YtkgngggppcmpfaaGreat.L
end
section
namespace Go.Proofs.YtkgngggppcmpfaaGreat.L
open Go.RowKit Go.Proofs.YtkgngggppcmpfaaGreatW.PrintWords Go.Proofs.YtkgngggppcmpfaaGreatW.PrintLast Go.Proofs.YtkgngggppcmpfaaGreatW.PrintMore
attribute [local go_sem] Qy Q0 Qbb Qbc Qp Qq Qz Q1
set_option linter.unusedVariables false
set_option linter.unusedSimpArgs false
def Qa (w0 W:World) (g:Nat) (f0:List Int) (f1:Int) (f2:Int):Prop:= ∃ A0 c0,W.heap[g]? =some (.cells #[.slice A0 f0.length c0, .int .i64 f1, .int .u64 f2] 94 (0,0))∧w0.heap.size≤g∧Kd.C (Kd.int .u8) w0 A0 f0.length f0
theorem Qa.grown {w0 W:World} {g:Nat} {f0:List Int} {f1:Int} {f2:Int} {W1:World} {row:Option Nat} (h:Qa w0 W g f0 f1 f2) (hw:W.grownBy W1 row) (hne:some g≠row):Qa w0 W1 g f0 f1 f2:=by
 obtain ⟨A0,c0,hb,hg,hr0⟩:=h;exact ⟨A0,c0,Qc8 hb hw hne,hg,hr0⟩
theorem Qa.own_neN {w0 W:World} {g:Nat} {f0:List Int} {f1:Int} {f2:Int} {α:Type} {d:Kd α} {e:Nat} {base:Nat} {ok:Nat→Prop} {v:Value} {xs:List α} (h:Qa w0 W g f0 f1 f2) (ho:Kd.N d e W base ok v xs) (ht:e≠94):some g≠v.ownBlock:=by
 obtain ⟨A0,c0,hb,hg,hr0⟩:=h;exact Kd.N_ne ho hb ht
theorem Qa.fresh {w0 W:World} {g:Nat} {f0:List Int} {f1:Int} {f2:Int} (h:Qa w0 W g f0 f1 f2): ∀ k,W.heap.size≤k→k≠g:=by
 obtain ⟨A0,c0,hb,hg,hr0⟩:=h;exact Kd.freshB hb
theorem Qa.kept {w0 W:World} {g:Nat} {f0:List Int} {f1:Int} {f2:Int} {W1:World} {S:Nat→Prop} (h:Qa w0 W g f0 f1 f2) (hk:Kept W W1 S) (hne: ¬ S g):Qa w0 W1 g f0 f1 f2:=by
 obtain ⟨A0,c0,hb,hg,hr0⟩:=h;exact ⟨A0,c0,blk_kept hb hk hne,hg,hr0⟩
theorem Qa.below {w0 W:World} {g:Nat} {f0:List Int} {f1:Int} {f2:Int} {W1:World} (h:Qa w0 W g f0 f1 f2) (hw:Below W.heap.size W W1):Qa w0 W1 g f0 f1 f2:=h.grown (Qej hw none) (by simp)
theorem Qa.alloc {w0 W:World} {g:Nat} {f0:List Int} {f1:Int} {f2:Int} (h:Qa w0 W g f0 f1 f2) (o:Obj):Qa w0 (W.alloc o) g f0 f1 f2:=h.below (Qj (Below.refl _ _) o)
theorem Qa.drewN {w0 W:World} {g:Nat} {f0:List Int} {f1:Int} {f2:Int} (h:Qa w0 W g f0 f1 f2) (m:Nat):Qa w0 (W.drewN m) g f0 f1 f2:=h
theorem Qa.drew {w0 W:World} {g:Nat} {f0:List Int} {f1:Int} {f2:Int} (h:Qa w0 W g f0 f1 f2):Qa w0 W.drew g f0 f1 f2:=h
theorem Qa.at_ {w0 W:World} {g:Nat} {f0:List Int} {f1:Int} {f2:Int} {w':World} {m:Nat} (hq:W.drewN m=w') (h:Qa w0 W g f0 f1 f2):Qa w0 w' g f0 f1 f2:=by subst hq;exact Qa.drewN h m
theorem Qa.apart {w0 W:World} {g:Nat} {f0:List Int} {f1:Int} {f2:Int} {α:Type} {d:Kd α} {e:Nat} {base:Nat} {ok:Nat→Prop} {v:Value} {xs:List α} (h:Qa w0 W g f0 f1 f2) (ho:d.R e W base ok v xs) (ht: ∀ q,q ∈ e::d.E→q≠94):d.R e W base (fun k=>ok k∧k≠g) v xs:=by
 obtain ⟨A0,c0,hb,hg,hr0⟩:=h;exact Kd.R_types ho hb ht
theorem Qa.own_ne {w0 W:World} {g:Nat} {f0:List Int} {f1:Int} {f2:Int} {α:Type} {d:Kd α} {e:Nat} {base:Nat} {ok:Nat→Prop} {v:Value} {xs:List α} (h:Qa w0 W g f0 f1 f2) (ho:d.R e W base ok v xs) (ht:e≠94):some g≠v.ownBlock:=by
 obtain ⟨A0,c0,hb,hg,hr0⟩:=h;exact Kd.R_ne ho hb ht
theorem Qa.apartQ {w0 W:World} {g:Nat} {f0:List Int} {f1:Int} {f2:Int} {α:Type} {d:Kd α} {e:Nat} {base:Nat} {ok:Nat→Prop} {v:Value} {xs:List α} (h:Qa w0 W g f0 f1 f2) (ho:d.Q e W base ok v xs) (ht: ∀ q,q ∈ e::d.E→q≠94):d.Q e W base (fun k=>ok k∧k≠g) v xs:=by
 obtain ⟨A0,c0,hb,hg,hr0⟩:=h;exact Kd.Q_types ho hb ht
theorem Qa.own_neQ {w0 W:World} {g:Nat} {f0:List Int} {f1:Int} {f2:Int} {α:Type} {d:Kd α} {e:Nat} {base:Nat} {ok:Nat→Prop} {v:Value} {xs:List α} (h:Qa w0 W g f0 f1 f2) (ho:d.Q e W base ok v xs) (ht:e≠94):some g≠v.ownBlock:=by
 obtain ⟨A0,c0,hb,hg,hr0⟩:=h;exact Kd.Q_ne ho hb ht
theorem Qa.apartS {w0 W:World} {g:Nat} {f0:List Int} {f1:Int} {f2:Int} {α:Type} {d:Kd α} {e:Nat} {base:Nat} {ok:Nat→Prop} {v:Value} {xs:List α} (h:Qa w0 W g f0 f1 f2) (ho:d.S e W base ok v xs) (ht: ∀ q,q ∈ e::d.E→q≠94):d.S e W base (fun k=>ok k∧k≠g) v xs:=by
 obtain ⟨A0,c0,hb,hg,hr0⟩:=h;exact Kd.S_types ho hb ht
theorem Qa.own_neS {w0 W:World} {g:Nat} {f0:List Int} {f1:Int} {f2:Int} {α:Type} {d:Kd α} {e:Nat} {base:Nat} {ok:Nat→Prop} {v:Value} {xs:List α} (h:Qa w0 W g f0 f1 f2) (ho:d.S e W base ok v xs) (ht:e≠94):some g≠v.ownBlock:=by
 obtain ⟨A0,c0,hb,hg,hr0⟩:=h;exact Kd.S_ne ho hb ht
theorem Qa.lt {w0 W:World} {g:Nat} {f0:List Int} {f1:Int} {f2:Int} (h:Qa w0 W g f0 f1 f2):g<W.heap.size:=by
 obtain ⟨A0,c0,hb,hg,hr0⟩:=h;exact Qd8 hb
theorem Qa.ge {w0 W:World} {g:Nat} {f0:List Int} {f1:Int} {f2:Int} (h:Qa w0 W g f0 f1 f2):w0.heap.size≤g:=by
 obtain ⟨A0,c0,hb,hg,hr0⟩:=h;exact hg
theorem Qa.ne_blk {w0 W:World} {g:Nat} {f0:List Int} {f1:Int} {f2:Int} {a:Nat} {cs:Array Value} {t:TypeId} {fr:Nat × Nat} (h:Qa w0 W g f0 f1 f2) (hb2:W.heap[a]? =some (.cells cs t fr)) (ht:t≠94):g≠a:=by
 obtain ⟨A0,c0,hb,hg,hr0⟩:=h;rintro rfl;rw [hb] at hb2;injection hb2 with hb2
 injection hb2 with _ ht2
 exact ht ht2.symm
theorem Qa.far {w0 W:World} {g:Nat} {f0:List Int} {f1:Int} {f2:Int} {p:Addr} (h:Qa w0 W g f0 f1 f2) (hne:g≠p.block) (u:Value):Qa w0 (W.setCell p u) g f0 f1 f2:=by
 obtain ⟨A0,c0,hb,hg,hr0⟩:=h;exact ⟨A0,c0,Qd5 hb hne u,hg,hr0⟩
theorem Qf5 {W:World} {g:Nat} {A0:Option Addr} {c0:Nat} {f0:List Int} {f1:Int} {f2:Int} (h:W.heap[g]? =some (.cells #[.slice A0 f0.length c0, .int .i64 f1, .int .u64 f2] 94 (0,0))):W.cell? ⟨g,0,none⟩=some (.slice A0 f0.length c0):=(Qcs h 0).trans rfl
theorem Qf6 {W:World} {g:Nat} {A0:Option Addr} {c0:Nat} {f0:List Int} {f1:Int} {f2:Int} (h:W.heap[g]? =some (.cells #[.slice A0 f0.length c0, .int .i64 f1, .int .u64 f2] 94 (0,0))):W.cell? ⟨g,1,none⟩=some (.int .i64 f1):=(Qcs h 1).trans rfl
theorem Qa.set_1 {w0 W:World} {g:Nat} {f0:List Int} {f1:Int} {f2:Int} (h:Qa w0 W g f0 f1 f2) (x:Int):Qa w0 (W.setCell ⟨g,1,none⟩ (.int .i64 x)) g f0 x f2:=by
 obtain ⟨A0,c0,hb,hg,hr0⟩:=h;exact ⟨A0,c0,by simpa using Qgi hb 1 (.int .i64 x),hg,hr0⟩
theorem Qf7 {W:World} {g:Nat} {A0:Option Addr} {c0:Nat} {f0:List Int} {f1:Int} {f2:Int} (h:W.heap[g]? =some (.cells #[.slice A0 f0.length c0, .int .i64 f1, .int .u64 f2] 94 (0,0))):W.cell? ⟨g,2,none⟩=some (.int .u64 f2):=(Qcs h 2).trans rfl
theorem Qa.set_2 {w0 W:World} {g:Nat} {f0:List Int} {f1:Int} {f2:Int} (h:Qa w0 W g f0 f1 f2) (x:Int):Qa w0 (W.setCell ⟨g,2,none⟩ (.int .u64 x)) g f0 f1 x:=by
 obtain ⟨A0,c0,hb,hg,hr0⟩:=h;exact ⟨A0,c0,by simpa using Qgi hb 2 (.int .u64 x),hg,hr0⟩
theorem Qa.new (w0 W:World) (A0:Option Addr) (c0:Nat) (f0:List Int) (f1:Int) (f2:Int) (hB:Below w0.heap.size w0 W) (hr0:Kd.C (Kd.int .u8) w0 A0 f0.length f0):Qa w0 (W.alloc (.cells #[.slice A0 f0.length c0, .int .i64 f1, .int .u64 f2] 94)) W.heap.size f0 f1 f2:=⟨A0,c0,by simpa using heap_alloc_new W _,hB.size,hr0⟩
def Qdz.f (s0_0:List Int) (s0_1:Int) (s0_2:Int):Option (Int × Int × Int):=if s0_1<(s0_0.length:Int) then (if 0≤s0_1 then (if (wrap64 (s0_1+1))≤(s0_0.length:Int) then (some (wrap64 (rd s0_0 s0_1),wrap64 (s0_1+1),IntKind.u64.wrap ((IntKind.u64.wrap ((IntKind.u64.wrap (s0_2*6364136223846793005))+(IntKind.u64.wrap (wrap64 (rd s0_0 s0_1)))))+1442695040888963407))) else (some (wrap64 (Go.bits .and .u64 ((IntKind.u64.wrap ((IntKind.u64.wrap ((IntKind.u64.wrap (s0_2*6364136223846793005))+(IntKind.u64.wrap (wrap64 (rd s0_0 s0_1)))))+1442695040888963407)) / 1099511627776) 255),wrap64 (s0_1+1),IntKind.u64.wrap ((IntKind.u64.wrap ((IntKind.u64.wrap (s0_2*6364136223846793005))+(IntKind.u64.wrap (wrap64 (rd s0_0 s0_1)))))+1442695040888963407)))) else (none)) else (if (wrap64 (s0_1+1))≤(s0_0.length:Int) then (some (0,wrap64 (s0_1+1),IntKind.u64.wrap ((IntKind.u64.wrap ((IntKind.u64.wrap (s0_2*6364136223846793005))+0))+1442695040888963407))) else (some (wrap64 (Go.bits .and .u64 ((IntKind.u64.wrap ((IntKind.u64.wrap ((IntKind.u64.wrap (s0_2*6364136223846793005))+0))+1442695040888963407)) / 1099511627776) 255),wrap64 (s0_1+1),IntKind.u64.wrap ((IntKind.u64.wrap ((IntKind.u64.wrap (s0_2*6364136223846793005))+0))+1442695040888963407))))
set_option maxHeartbeats 8000000 in
set_option maxRecDepth 100000 in
theorem Qdz.calls (g:Nat) (s0_0:List Int) (s0_1:Int) (s0_2:Int) (r1:Int) (r2:Int) (r3:Int) (w0 w:World) (hI:Qa w0 w g s0_0 s0_1 s0_2) (hB:Below w0.heap.size w0 w) (h:Qdz.f s0_0 s0_1 s0_2=some (r1,r2,r3)):
 Calls Tryz.prog 284 #[.pointer (some ⟨g,0,none⟩)] w fun e w'=>e= .returned (.int .i64 r1)∧Qa w0 w' g s0_0 r2 r3∧Below w0.heap.size w0 w'∧Qg w w' g none:=by
 have HI0:=Zk hI;have HK:=Zk (Qg.refl w g none);have HL:=Zk hB.size;clear hI;have HW0:=Zk hB.size;have HB:=Zk hB;clear hB;have H:(if s0_1<(s0_0.length:Int) then (if 0≤s0_1 then (if (wrap64 (s0_1+1))≤(s0_0.length:Int) then (some (wrap64 (rd s0_0 s0_1),wrap64 (s0_1+1),IntKind.u64.wrap ((IntKind.u64.wrap ((IntKind.u64.wrap (s0_2*6364136223846793005))+(IntKind.u64.wrap (wrap64 (rd s0_0 s0_1)))))+1442695040888963407))) else (some (wrap64 (Go.bits .and .u64 ((IntKind.u64.wrap ((IntKind.u64.wrap ((IntKind.u64.wrap (s0_2*6364136223846793005))+(IntKind.u64.wrap (wrap64 (rd s0_0 s0_1)))))+1442695040888963407)) / 1099511627776) 255),wrap64 (s0_1+1),IntKind.u64.wrap ((IntKind.u64.wrap ((IntKind.u64.wrap (s0_2*6364136223846793005))+(IntKind.u64.wrap (wrap64 (rd s0_0 s0_1)))))+1442695040888963407)))) else (none)) else (if (wrap64 (s0_1+1))≤(s0_0.length:Int) then (some (0,wrap64 (s0_1+1),IntKind.u64.wrap ((IntKind.u64.wrap ((IntKind.u64.wrap (s0_2*6364136223846793005))+0))+1442695040888963407))) else (some (wrap64 (Go.bits .and .u64 ((IntKind.u64.wrap ((IntKind.u64.wrap ((IntKind.u64.wrap (s0_2*6364136223846793005))+0))+1442695040888963407)) / 1099511627776) 255),wrap64 (s0_1+1),IntKind.u64.wrap ((IntKind.u64.wrap ((IntKind.u64.wrap (s0_2*6364136223846793005))+0))+1442695040888963407)))))=some (r1,r2,r3):=h;clear h
 by_cases c2:s0_1<(s0_0.length:Int)
 ·
  rw [if_pos c2] at H;have c2b0:decide (s0_1<(s0_0.length:Int))=true:=decide_eq_true c2;clear c2
  by_cases c3:0≤s0_1
  ·
   rw [if_pos c3] at H;have c3b0:decide (0≤s0_1)=true:=decide_eq_true c3;clear c3
   by_cases c4:(wrap64 (s0_1+1))≤(s0_0.length:Int)
   ·
    rw [if_pos c4] at H;have c4b0:decide ((wrap64 (s0_1+1))≤(s0_0.length:Int))=true:=decide_eq_true c4;clear c4;simp only [Option.some.injEq,Prod.mk.injEq] at H;obtain ⟨rfl,rfl,rfl⟩:=H;obtain ⟨ASz5_0,cSz5_0,HGz5,hgz5,HSz5_0⟩:=HI0.out;have hcz5_0:=Qf5 HGz5;have hcz5_1:=Qf6 HGz5;have hcz5_2:=Qf7 HGz5;have hfz5_1:=Q6 HGz5 1;have hfz5_2:=Q6 HGz5 2;clear HGz5 hgz5;have p245:0≤(s0_1:Int):=of_decide_eq_true (by first|(with_reducible assumption)|assumption);have q245:s0_1<(s0_0.length:Int):=of_decide_eq_true (by first|(with_reducible assumption)|assumption);obtain ⟨ad245,e245,hx245_0⟩:=Kd.at_int HSz5_0 s0_1 p245 q245;cases e245;replace hx245_0:=Qcb HB.out hx245_0;replace p245:=eq_true p245;replace q245:=eq_true q245;go_enter Tryz.func284,Tryz.ntmps284;go_wp2
    repeat (go_quiet (fail);try go_wp2)
    go_ret
    (try simp only [Int.add_zero])
    exact ⟨by first|rfl|(simp [Qe,Qf] <;>rfl)|(simp [*,Qe,Qf] <;>rfl),by repeat (first|(with_reducible first|exact HI0.out|apply Qa.alloc|apply Qa.drewN|apply Qa.drew|apply Qa.set_1|apply Qa.set_2)|exact HI0.out),by repeat (first|(with_reducible first|exact HB.out|apply Qj|apply Qk|apply Q2|refine Qbt ?_ (Qa.ge HI0.out))|exact HB.out),by repeat (first|(with_reducible first|exact HK.out|apply Qg.set_|apply Qfk|apply Qft|apply Qfj)|exact HK.out)⟩
   ·
    rw [if_neg c4] at H;have c4b0:decide ((wrap64 (s0_1+1))≤(s0_0.length:Int))=false:=decide_eq_false c4;clear c4;simp only [Option.some.injEq,Prod.mk.injEq] at H;obtain ⟨rfl,rfl,rfl⟩:=H;obtain ⟨ASz6_0,cSz6_0,HGz6,hgz6,HSz6_0⟩:=HI0.out;have hcz6_0:=Qf5 HGz6;have hcz6_1:=Qf6 HGz6;have hcz6_2:=Qf7 HGz6;have hfz6_1:=Q6 HGz6 1;have hfz6_2:=Q6 HGz6 2;clear HGz6 hgz6;have p245:0≤(s0_1:Int):=of_decide_eq_true (by first|(with_reducible assumption)|assumption);have q245:s0_1<(s0_0.length:Int):=of_decide_eq_true (by first|(with_reducible assumption)|assumption);obtain ⟨ad245,e245,hx245_0⟩:=Kd.at_int HSz6_0 s0_1 p245 q245;cases e245;replace hx245_0:=Qcb HB.out hx245_0;replace p245:=eq_true p245;replace q245:=eq_true q245;go_enter Tryz.func284,Tryz.ntmps284;go_wp2
    repeat (go_quiet (fail);try go_wp2)
    go_ret
    (try simp only [Int.add_zero])
    exact ⟨by first|rfl|(simp [Qe,Qf] <;>rfl)|(simp [*,Qe,Qf] <;>rfl),by repeat (first|(with_reducible first|exact HI0.out|apply Qa.alloc|apply Qa.drewN|apply Qa.drew|apply Qa.set_1|apply Qa.set_2)|exact HI0.out),by repeat (first|(with_reducible first|exact HB.out|apply Qj|apply Qk|apply Q2|refine Qbt ?_ (Qa.ge HI0.out))|exact HB.out),by repeat (first|(with_reducible first|exact HK.out|apply Qg.set_|apply Qfk|apply Qft|apply Qfj)|exact HK.out)⟩
  ·
   rw [if_neg c3] at H;exact absurd H (by simp)
 ·
  rw [if_neg c2] at H;have c2b0:decide (s0_1<(s0_0.length:Int))=false:=decide_eq_false c2;clear c2
  by_cases c7:(wrap64 (s0_1+1))≤(s0_0.length:Int)
  ·
   rw [if_pos c7] at H;have c7b0:decide ((wrap64 (s0_1+1))≤(s0_0.length:Int))=true:=decide_eq_true c7;clear c7;simp only [Option.some.injEq,Prod.mk.injEq] at H;obtain ⟨rfl,rfl,rfl⟩:=H;obtain ⟨ASz8_0,cSz8_0,HGz8,hgz8,HSz8_0⟩:=HI0.out;have hcz8_0:=Qf5 HGz8;have hcz8_1:=Qf6 HGz8;have hcz8_2:=Qf7 HGz8;have hfz8_1:=Q6 HGz8 1;have hfz8_2:=Q6 HGz8 2;clear HGz8 hgz8;go_enter Tryz.func284,Tryz.ntmps284;go_wp2
   repeat (go_quiet (fail);try go_wp2)
   go_ret
   (try simp only [Int.add_zero])
   exact ⟨by first|rfl|(simp [Qe,Qf] <;>rfl)|(simp [*,Qe,Qf] <;>rfl),by repeat (first|(with_reducible first|exact HI0.out|apply Qa.alloc|apply Qa.drewN|apply Qa.drew|apply Qa.set_1|apply Qa.set_2)|exact HI0.out),by repeat (first|(with_reducible first|exact HB.out|apply Qj|apply Qk|apply Q2|refine Qbt ?_ (Qa.ge HI0.out))|exact HB.out),by repeat (first|(with_reducible first|exact HK.out|apply Qg.set_|apply Qfk|apply Qft|apply Qfj)|exact HK.out)⟩
  ·
   rw [if_neg c7] at H;have c7b0:decide ((wrap64 (s0_1+1))≤(s0_0.length:Int))=false:=decide_eq_false c7;clear c7;simp only [Option.some.injEq,Prod.mk.injEq] at H;obtain ⟨rfl,rfl,rfl⟩:=H;obtain ⟨ASz9_0,cSz9_0,HGz9,hgz9,HSz9_0⟩:=HI0.out;have hcz9_0:=Qf5 HGz9;have hcz9_1:=Qf6 HGz9;have hcz9_2:=Qf7 HGz9;have hfz9_1:=Q6 HGz9 1;have hfz9_2:=Q6 HGz9 2;clear HGz9 hgz9;go_enter Tryz.func284,Tryz.ntmps284;go_wp2
   repeat (go_quiet (fail);try go_wp2)
   go_ret
   (try simp only [Int.add_zero])
   exact ⟨by first|rfl|(simp [Qe,Qf] <;>rfl)|(simp [*,Qe,Qf] <;>rfl),by repeat (first|(with_reducible first|exact HI0.out|apply Qa.alloc|apply Qa.drewN|apply Qa.drew|apply Qa.set_1|apply Qa.set_2)|exact HI0.out),by repeat (first|(with_reducible first|exact HB.out|apply Qj|apply Qk|apply Q2|refine Qbt ?_ (Qa.ge HI0.out))|exact HB.out),by repeat (first|(with_reducible first|exact HK.out|apply Qg.set_|apply Qfk|apply Qft|apply Qfj)|exact HK.out)⟩
end Go.Proofs.YtkgngggppcmpfaaGreat.L
end
section
namespace Go.Proofs.YtkgngggppcmpfaaGreat.L
open Go.RowKit Go.Proofs.YtkgngggppcmpfaaGreatW.PrintWords Go.Proofs.YtkgngggppcmpfaaGreatW.PrintLast Go.Proofs.YtkgngggppcmpfaaGreatW.PrintMore Go.Proofs.YtkgngggppcmpfaaGreat.X
set_option linter.unusedVariables false
theorem Qa.vB {w0 w W:World} (k:Z0 (Below w0.heap.size w0 w)) (h:Below w0.heap.size w0 W:=by repeat (first|(with_reducible first|exact HB.out|apply Qj|apply Qk|apply Q2|refine Qbt ?_ (Qa.ge (Z0.out (by assumption)))|refine Qbt ?_ (Z0.out (by assumption)))|exact HB.out)):Below w0.heap.size w0 W:=h
theorem Qa.vI {w0 W:World} {g:Nat} {f0:List Int} {f1:Int} {f2:Int} {W1:World} {f0_:List Int} {f1_:Int} {f2_:Int} (k:Z0 (Qa w0 W g f0 f1 f2)) (h:Qa w0 W1 g f0_ f1_ f2_:=by repeat (first|(with_reducible first|exact HI0.out|apply Qa.alloc|apply Qa.drewN|apply Qa.drew|apply Qa.set_1|apply Qa.set_2|refine Qa.far ?_ (Z0.out (by assumption)) _)|exact HI0.out)):Qa w0 W1 g f0_ f1_ f2_:=h
end Go.Proofs.YtkgngggppcmpfaaGreat.L
end
section
namespace Go.Proofs.YtkgngggppcmpfaaGreat.L
open Go.RowKit Go.Proofs.YtkgngggppcmpfaaGreatW.PrintWords Go.Proofs.YtkgngggppcmpfaaGreatW.PrintLast Go.Proofs.YtkgngggppcmpfaaGreatW.PrintMore Go.Proofs.YtkgngggppcmpfaaGreat.X
attribute [local go_sem] Qy Q0 Qbb Qbc Qp Qq Qz Q1
set_option linter.unusedVariables false
set_option linter.unusedSimpArgs false
def Qn.f (s0_0:List Int) (s0_1:Int) (s0_2:Int) (a1:Int):Option (Int × Int × Int):=if a1≤1 then (some (0,s0_1,s0_2)) else ((Qdz.f s0_0 s0_1 s0_2).bind fun bt246=>(if a1>200 then ((Qdz.f s0_0 bt246.2.1 bt246.2.2).bind fun bt249=>(if a1=0 then (none) else (some (Int.tmod (wrap64 ((wrap64 (bt246.1*256))+bt249.1)) a1,bt249.2.1,bt249.2.2)))) else (if a1=0 then (none) else (some (Int.tmod bt246.1 a1,bt246.2.1,bt246.2.2)))))
set_option maxHeartbeats 8000000 in
set_option maxRecDepth 100000 in
theorem Qn.calls (g:Nat) (s0_0:List Int) (s0_1:Int) (s0_2:Int) (a1:Int) (r1:Int) (r2:Int) (r3:Int) (w0 w:World) (hI:Qa w0 w g s0_0 s0_1 s0_2) (hB:Below w0.heap.size w0 w) (h:Qn.f s0_0 s0_1 s0_2 a1=some (r1,r2,r3)):
 Calls Tryz.prog 162 #[.pointer (some ⟨g,0,none⟩), .int .i64 a1] w fun e w'=>e= .returned (.int .i64 r1)∧Qa w0 w' g s0_0 r2 r3∧Below w0.heap.size w0 w'∧Qg w w' g none:=by
 have HI0:=Zk hI;have HK:=Zk (Qg.refl w g none);have HL:=Zk hB.size;clear hI;have HW0:=Zk hB.size;have HB:=Zk hB;clear hB;have H:(if a1≤1 then (some (0,s0_1,s0_2)) else ((Qdz.f s0_0 s0_1 s0_2).bind fun bt246=>(if a1>200 then ((Qdz.f s0_0 bt246.2.1 bt246.2.2).bind fun bt249=>(if a1=0 then (none) else (some (Int.tmod (wrap64 ((wrap64 (bt246.1*256))+bt249.1)) a1,bt249.2.1,bt249.2.2)))) else (if a1=0 then (none) else (some (Int.tmod bt246.1 a1,bt246.2.1,bt246.2.2))))))=some (r1,r2,r3):=h;clear h
 by_cases c3:a1≤1
 ·
  rw [if_pos c3] at H;have c3b0:=decide_eq_true c3;clear c3;simp only [Option.some.injEq,Prod.mk.injEq] at H;obtain ⟨rfl,rfl,rfl⟩:=H;go_enter Tryz.func162,Tryz.ntmps162;go_wp2
  go_ret
  exact ⟨by first|rfl|(simp [Qe,Qf] <;>rfl)|(simp [*,Qe,Qf] <;>rfl),(Qa.vI HI0),(Qa.vB HB),(vK HK)⟩
 ·
  rw [if_neg c3] at H;have c3b0:=decide_eq_false c3;clear c3;obtain ⟨⟨t246,t247,t248⟩,A4,H⟩:=bs H;(try dsimp only at H)
  by_cases c5:a1>200
  ·
   rw [if_pos c5] at H;have c5b0:=decide_eq_true c5;clear c5;obtain ⟨⟨t249,t250,t251⟩,A6,H⟩:=bs H;(try dsimp only at H)
   by_cases c7:a1=0
   ·
    rw [if_pos c7] at H;exact absurd H (by simp)
   ·
    rw [if_neg c7] at H;have c7b0:(a1==0)=false:=beq_eq_false_iff_ne.mpr c7;have c7b1:(a1 !=0)=true:=bne_iff_ne.mpr c7;simp only [Option.some.injEq,Prod.mk.injEq] at H;obtain ⟨rfl,rfl,rfl⟩:=H;go_enter Tryz.func162,Tryz.ntmps162;go_wp2_with (first|(refine gA (some 9) Tryz.func284 #[.pointer (some ⟨g,0,none⟩)] ?_;(with_reducible refine (Qdz.calls g s0_0 s0_1 s0_2 t246 t247 t248 w0 _ (Qa.vI HI0) (Qa.vB HB) A4.out).mono ?_);rintro e w8 ⟨rfl,hi,hb,hk⟩;refine ⟨_,rfl,?_⟩;replace HK:=Zk (Qg.trans (vK HK) hk (.inl rfl));replace HB:=Zk (hb);replace HI0:=Zk (hi);(try clear hb hk hi))|(refine gA (some 15) Tryz.func284 #[.pointer (some ⟨g,0,none⟩)] ?_;(with_reducible refine (Qdz.calls g s0_0 t247 t248 t249 t250 t251 w0 _ (Qa.vI HI0) (Qa.vB HB) A6.out).mono ?_);rintro e w9 ⟨rfl,hi,hb,hk⟩;refine ⟨_,rfl,?_⟩;replace HK:=Zk (Qg.trans (vK HK) hk (.inl rfl));replace HB:=Zk (hb);replace HI0:=Zk (hi);(try clear hb hk hi)))
    go_ret
    exact ⟨by first|rfl|(simp [Qe,Qf] <;>rfl)|(simp [*,Qe,Qf] <;>rfl),(Qa.vI HI0),(Qa.vB HB),(vK HK)⟩
  ·
   rw [if_neg c5] at H;have c5b0:=decide_eq_false c5;clear c5
   by_cases c10:a1=0
   ·
    rw [if_pos c10] at H;exact absurd H (by simp)
   ·
    rw [if_neg c10] at H;have c10b0:(a1==0)=false:=beq_eq_false_iff_ne.mpr c10;have c10b1:(a1 !=0)=true:=bne_iff_ne.mpr c10;simp only [Option.some.injEq,Prod.mk.injEq] at H;obtain ⟨rfl,rfl,rfl⟩:=H;go_enter Tryz.func162,Tryz.ntmps162;go_wp2_with (first|(refine gA (some 9) Tryz.func284 #[.pointer (some ⟨g,0,none⟩)] ?_;(with_reducible refine (Qdz.calls g s0_0 s0_1 s0_2 t246 t247 t248 w0 _ (Qa.vI HI0) (Qa.vB HB) A4.out).mono ?_);rintro e w11 ⟨rfl,hi,hb,hk⟩;refine ⟨_,rfl,?_⟩;replace HK:=Zk (Qg.trans (vK HK) hk (.inl rfl));replace HB:=Zk (hb);replace HI0:=Zk (hi);(try clear hb hk hi)))
    go_ret
    exact ⟨by first|rfl|(simp [Qe,Qf] <;>rfl)|(simp [*,Qe,Qf] <;>rfl),(Qa.vI HI0),(Qa.vB HB),(vK HK)⟩
def Qbq.f (s0_0:List Int) (s0_1:Int) (s0_2:Int) (a1:Int):Option (Bool × Int × Int):=(Qn.f s0_0 s0_1 s0_2 a1).bind fun bt252=>(some ((bt252.1==0),bt252.2.1,bt252.2.2))
set_option maxHeartbeats 8000000 in
set_option maxRecDepth 100000 in
theorem Qbq.calls (g:Nat) (s0_0:List Int) (s0_1:Int) (s0_2:Int) (a1:Int) (r1:Bool) (r2:Int) (r3:Int) (w0 w:World) (hI:Qa w0 w g s0_0 s0_1 s0_2) (hB:Below w0.heap.size w0 w) (h:Qbq.f s0_0 s0_1 s0_2 a1=some (r1,r2,r3)):
 Calls Tryz.prog 161 #[.pointer (some ⟨g,0,none⟩), .int .i64 a1] w fun e w'=>e= .returned (.bool r1)∧Qa w0 w' g s0_0 r2 r3∧Below w0.heap.size w0 w'∧Qg w w' g none:=by
 have HI0:=Zk hI;have HK:=Zk (Qg.refl w g none);have HL:=Zk hB.size;clear hI;have HW0:=Zk hB.size;have HB:=Zk hB;clear hB;have H:((Qn.f s0_0 s0_1 s0_2 a1).bind fun bt252=>(some ((bt252.1==0),bt252.2.1,bt252.2.2)))=some (r1,r2,r3):=h;clear h;obtain ⟨⟨t252,t253,t254⟩,A3,H⟩:=bs H;(try dsimp only at H)
 simp only [Option.some.injEq,Prod.mk.injEq] at H;obtain ⟨rfl,rfl,rfl⟩:=H;go_enter Tryz.func161,Tryz.ntmps161;go_wp2_with (first|(refine gA (some 7) Tryz.func162 #[.pointer (some ⟨g,0,none⟩), .int .i64 a1] ?_;(with_reducible refine (Qn.calls g s0_0 s0_1 s0_2 a1 t252 t253 t254 w0 _ (Qa.vI HI0) (Qa.vB HB) A3.out).mono ?_);rintro e w4 ⟨rfl,hi,hb,hk⟩;refine ⟨_,rfl,?_⟩;replace HK:=Zk (Qg.trans (vK HK) hk (.inl rfl));replace HB:=Zk (hb);replace HI0:=Zk (hi);(try clear hb hk hi)))
 go_ret
 exact ⟨by first|rfl|(simp [Qe,Qf] <;>rfl)|(simp [*,Qe,Qf] <;>rfl),(Qa.vI HI0),(Qa.vB HB),(vK HK)⟩
end Go.Proofs.YtkgngggppcmpfaaGreat.L
end
