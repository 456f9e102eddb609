-- Written by a program of this session out of the translation. Not trusted: Lean checks it.
import Derived.Test.YtffjlpphcjfdgaaDoorMFnExactInsertSkipx0
namespace Go.Proofs.YtffjlpphcjfdgaaDoor.MFnExactInsertSkip
-- joined
-- short
-- shrunk
-- TAB
-- RD
open Go.Proofs.YtffjlpphcjfdgaaDoor Go.RowKit Go.Proofs.YtffjlpphcjfdgaaDoorW.PrintWords Go.Proofs.YtffjlpphcjfdgaaDoorW.PrintLast Go.Proofs.YtffjlpphcjfdgaaDoorW.PrintMore Go.Proofs.YtffjlpphcjfdgaaDoorX
attribute [local go_sem] max2_int min2_int max_two min_two max_three min_three max_four min_four str_gtr str_leq str_geq cell_twice
set_option linter.unusedVariables false
set_option linter.unusedSimpArgs false
-- COMPACT
/-- A state of type 26 at block g of W; what its slices lead to came in by w0. -/
def IsS26 (w0 W:World) (g:Nat) (f0:List Int) (f1:List (S77)):Prop := ∃ A0 c0,∃ A1 c1,W.heap[g]? = some (.cells #[.slice A0 f0.length c0,.slice A1 f1.length c1] 26 (0,0))∧w0.heap.size≤g∧Kd.C (Kd.int .i64) w0 A0 f0.length f0∧f0.length≤c0∧Kd.C k77 w0 A1 f1.length f1∧f1.length≤c1
theorem IsS26.grown {w0 W:World} {g:Nat} {f0:List Int} {f1:List (S77)} {W1:World} {row:Option Nat} (h:IsS26 w0 W g f0 f1) (hw:W.grownBy W1 row) (hne:some g ≠ row):IsS26 w0 W1 g f0 f1:=by
  obtain ⟨A0,c0,A1,c1,hb,hg,hr0,hl0,hr1,hl1⟩:=h;exact ⟨A0,c0,A1,c1,blk_grown hb hw hne,hg,hr0,hl0,hr1,hl1⟩
theorem IsS26.own_neN {w0 W:World} {g:Nat} {f0:List Int} {f1:List (S77)} {α:Type} {d:Kd α} {e:Nat} {base:Nat} {ok:Nat→Prop} {v:Value} {xs:List α} (h:IsS26 w0 W g f0 f1) (ho:Kd.N d e W base ok v xs) (ht:e ≠ 26):some g ≠ v.ownBlock:=by
  obtain ⟨A0,c0,A1,c1,hb,hg,hr0,hl0,hr1,hl1⟩:=h;exact Kd.N_ne ho hb ht
theorem IsS26.fresh {w0 W:World} {g:Nat} {f0:List Int} {f1:List (S77)} (h:IsS26 w0 W g f0 f1):∀ k,W.heap.size≤k→k ≠ g:=by
  obtain ⟨A0,c0,A1,c1,hb,hg,hr0,hl0,hr1,hl1⟩:=h;exact Kd.freshB hb
theorem IsS26.kept {w0 W:World} {g:Nat} {f0:List Int} {f1:List (S77)} {W1:World} {S:Nat→Prop} (h:IsS26 w0 W g f0 f1) (hk:Kept W W1 S) (hne:¬ S g):IsS26 w0 W1 g f0 f1:=by
  obtain ⟨A0,c0,A1,c1,hb,hg,hr0,hl0,hr1,hl1⟩:=h;exact ⟨A0,c0,A1,c1,blk_kept hb hk hne,hg,hr0,hl0,hr1,hl1⟩
theorem IsS26.below {w0 W:World} {g:Nat} {f0:List Int} {f1:List (S77)} {W1:World} (h:IsS26 w0 W g f0 f1) (hw:Below W.heap.size W W1):IsS26 w0 W1 g f0 f1:=h.grown (grown_of_below hw none) (by simp)
theorem IsS26.alloc {w0 W:World} {g:Nat} {f0:List Int} {f1:List (S77)} (h:IsS26 w0 W g f0 f1) (o:Obj):IsS26 w0 (W.alloc o) g f0 f1:=h.below (bwa (Below.refl _ _) o)
theorem IsS26.drewN {w0 W:World} {g:Nat} {f0:List Int} {f1:List (S77)} (h:IsS26 w0 W g f0 f1) (m:Nat):IsS26 w0 (W.drewN m) g f0 f1:=h
theorem IsS26.drew {w0 W:World} {g:Nat} {f0:List Int} {f1:List (S77)} (h:IsS26 w0 W g f0 f1):IsS26 w0 W.drew g f0 f1:=h
theorem IsS26.at_ {w0 W:World} {g:Nat} {f0:List Int} {f1:List (S77)} {w':World} {m:Nat} (hq:W.drewN m=w') (h:IsS26 w0 W g f0 f1):IsS26 w0 w' g f0 f1:=by subst hq;exact IsS26.drewN h m
theorem IsS26.apart {w0 W:World} {g:Nat} {f0:List Int} {f1:List (S77)} {α:Type} {d:Kd α} {e:Nat} {base:Nat} {ok:Nat→Prop} {v:Value} {xs:List α} (h:IsS26 w0 W g f0 f1) (ho:d.R e W base ok v xs) (ht:∀ q,q ∈ e :: d.E→q ≠ 26):d.R e W base (fun k=>ok k∧k ≠ g) v xs:=by
  obtain ⟨A0,c0,A1,c1,hb,hg,hr0,hl0,hr1,hl1⟩:=h;exact Kd.R_types ho hb ht
theorem IsS26.own_ne {w0 W:World} {g:Nat} {f0:List Int} {f1:List (S77)} {α:Type} {d:Kd α} {e:Nat} {base:Nat} {ok:Nat→Prop} {v:Value} {xs:List α} (h:IsS26 w0 W g f0 f1) (ho:d.R e W base ok v xs) (ht:e ≠ 26):some g ≠ v.ownBlock:=by
  obtain ⟨A0,c0,A1,c1,hb,hg,hr0,hl0,hr1,hl1⟩:=h;exact Kd.R_ne ho hb ht
theorem IsS26.apartQ {w0 W:World} {g:Nat} {f0:List Int} {f1:List (S77)} {α:Type} {d:Kd α} {e:Nat} {base:Nat} {ok:Nat→Prop} {v:Value} {xs:List α} (h:IsS26 w0 W g f0 f1) (ho:d.Q e W base ok v xs) (ht:∀ q,q ∈ e :: d.E→q ≠ 26):d.Q e W base (fun k=>ok k∧k ≠ g) v xs:=by
  obtain ⟨A0,c0,A1,c1,hb,hg,hr0,hl0,hr1,hl1⟩:=h;exact Kd.Q_types ho hb ht
theorem IsS26.own_neQ {w0 W:World} {g:Nat} {f0:List Int} {f1:List (S77)} {α:Type} {d:Kd α} {e:Nat} {base:Nat} {ok:Nat→Prop} {v:Value} {xs:List α} (h:IsS26 w0 W g f0 f1) (ho:d.Q e W base ok v xs) (ht:e ≠ 26):some g ≠ v.ownBlock:=by
  obtain ⟨A0,c0,A1,c1,hb,hg,hr0,hl0,hr1,hl1⟩:=h;exact Kd.Q_ne ho hb ht
theorem IsS26.apartB {w0 W:World} {g:Nat} {f0:List Int} {f1:List (S77)} {d:Kd Int} {e:Nat} {base:Nat} {ok:Nat→Prop} {v:Value} {xs:List Int} (h:IsS26 w0 W g f0 f1) (ho:Kd.B d e W base ok v xs) (ht:∀ q,q ∈ e :: d.E→q ≠ 26):Kd.B d e W base (fun k=>ok k∧k ≠ g) v xs:=by
  obtain ⟨A0,c0,A1,c1,hb,hg,hr0,hl0,hr1,hl1⟩:=h;exact Kd.B_types ho hb ht
theorem IsS26.own_neB {w0 W:World} {g:Nat} {f0:List Int} {f1:List (S77)} {d:Kd Int} {e:Nat} {base:Nat} {ok:Nat→Prop} {v:Value} {xs:List Int} (h:IsS26 w0 W g f0 f1) (ho:Kd.B d e W base ok v xs) (ht:e ≠ 26):some g ≠ v.ownBlock:=by
  obtain ⟨A0,c0,A1,c1,hb,hg,hr0,hl0,hr1,hl1⟩:=h;exact Kd.B_ne ho hb ht
theorem IsS26.apartS {w0 W:World} {g:Nat} {f0:List Int} {f1:List (S77)} {α:Type} {d:Kd α} {e:Nat} {base:Nat} {ok:Nat→Prop} {v:Value} {xs:List α} (h:IsS26 w0 W g f0 f1) (ho:d.S e W base ok v xs) (ht:∀ q,q ∈ e :: d.E→q ≠ 26):d.S e W base (fun k=>ok k∧k ≠ g) v xs:=by
  obtain ⟨A0,c0,A1,c1,hb,hg,hr0,hl0,hr1,hl1⟩:=h;exact Kd.S_types ho hb ht
theorem IsS26.own_neS {w0 W:World} {g:Nat} {f0:List Int} {f1:List (S77)} {α:Type} {d:Kd α} {e:Nat} {base:Nat} {ok:Nat→Prop} {v:Value} {xs:List α} (h:IsS26 w0 W g f0 f1) (ho:d.S e W base ok v xs) (ht:e ≠ 26):some g ≠ v.ownBlock:=by
  obtain ⟨A0,c0,A1,c1,hb,hg,hr0,hl0,hr1,hl1⟩:=h;exact Kd.S_ne ho hb ht
theorem IsS26.lt {w0 W:World} {g:Nat} {f0:List Int} {f1:List (S77)} (h:IsS26 w0 W g f0 f1):g < W.heap.size:=by
  obtain ⟨A0,c0,A1,c1,hb,hg,hr0,hl0,hr1,hl1⟩:=h;exact blk_lt hb
theorem IsS26.ge {w0 W:World} {g:Nat} {f0:List Int} {f1:List (S77)} (h:IsS26 w0 W g f0 f1):w0.heap.size≤g:=by
  obtain ⟨A0,c0,A1,c1,hb,hg,hr0,hl0,hr1,hl1⟩:=h;exact hg
theorem IsS26.ne_blk {w0 W:World} {g:Nat} {f0:List Int} {f1:List (S77)} {a:Nat} {cs:Array Value} {t:TypeId} {fr:Nat × Nat} (h:IsS26 w0 W g f0 f1) (hb2:W.heap[a]? = some (.cells cs t fr)) (ht:t ≠ 26):g ≠ a:=by
  obtain ⟨A0,c0,A1,c1,hb,hg,hr0,hl0,hr1,hl1⟩:=h;rintro rfl;rw [hb] at hb2;injection hb2 with hb2
  injection hb2 with _ ht2
  exact ht ht2.symm
theorem IsS26.far {w0 W:World} {g:Nat} {f0:List Int} {f1:List (S77)} {p:Addr} (h:IsS26 w0 W g f0 f1) (hne:g ≠ p.block) (u:Value):IsS26 w0 (W.setCell p u) g f0 f1:=by
  obtain ⟨A0,c0,A1,c1,hb,hg,hr0,hl0,hr1,hl1⟩:=h;exact ⟨A0,c0,A1,c1,blk_far hb hne u,hg,hr0,hl0,hr1,hl1⟩
theorem cellS26_0 {W:World} {g:Nat} {A0:Option Addr} {c0:Nat} {A1:Option Addr} {c1:Nat} {f0:List Int} {f1:List (S77)} (h:W.heap[g]? = some (.cells #[.slice A0 f0.length c0,.slice A1 f1.length c1] 26 (0,0))):W.cell? ⟨g,0,none⟩=some (.slice A0 f0.length c0):=(kc h 0).trans rfl
theorem IsS26.same_ {W:World} {g:Nat} {A0:Option Addr} {c0:Nat} {A1:Option Addr} {c1:Nat} {f0:List Int} {f1:List (S77)} {W0:World} {A0':Option Addr} {c0':Nat} {A1':Option Addr} {c1':Nat} (h:W0.heap[g]? = some (.cells #[.slice A0 f0.length c0,.slice A1 f1.length c1] 26 (0,0))) (k:KeepF W0 W g none) (h':W.heap[g]? = some (.cells #[.slice A0' f0.length c0',.slice A1' f1.length c1'] 26 (0,0))):A0'=A0∧c0'=c0∧A1'=A1∧c1'=c1:=by
  have e:=zI ((k.blk h).symm.trans h');simp only [Obj.cells.injEq,Array.mk.injEq,List.cons.injEq,Value.slice.injEq,and_true,true_and] at e
  simp_all
theorem cellS26_1 {W:World} {g:Nat} {A0:Option Addr} {c0:Nat} {A1:Option Addr} {c1:Nat} {f0:List Int} {f1:List (S77)} (h:W.heap[g]? = some (.cells #[.slice A0 f0.length c0,.slice A1 f1.length c1] 26 (0,0))):W.cell? ⟨g,1,none⟩=some (.slice A1 f1.length c1):=(kc h 1).trans rfl
theorem IsS26.new (w0 W:World) (A0:Option Addr) (c0:Nat) (A1:Option Addr) (c1:Nat) (f0:List Int) (f1:List (S77)) (hB:Below w0.heap.size w0 W) (hr0:Kd.C (Kd.int .i64) w0 A0 f0.length f0) (hl0:f0.length≤c0) (hr1:Kd.C k77 w0 A1 f1.length f1) (hl1:f1.length≤c1):IsS26 w0 (W.alloc (.cells #[.slice A0 f0.length c0,.slice A1 f1.length c1] 26)) W.heap.size f0 f1:=⟨A0,c0,A1,c1,by simpa using heap_alloc_new W _,hB.size,hr0,hl0,hr1,hl1⟩
def IsS26F (A0:Option Addr) (c0:Nat) (A1:Option Addr) (c1:Nat) (w0 W:World) (g:Nat) (f0:List Int) (f1:List (S77)):Prop:=W.heap[g]? = some (.cells #[.slice A0 f0.length c0,.slice A1 f1.length c1] 26 (0,0))∧w0.heap.size≤g∧Kd.C (Kd.int .i64) w0 A0 f0.length f0∧f0.length≤c0∧Kd.C k77 w0 A1 f1.length f1∧f1.length≤c1
theorem IsS26F.to {A0:Option Addr} {c0:Nat} {A1:Option Addr} {c1:Nat} {w0 W:World} {g:Nat} {f0:List Int} {f1:List (S77)} (h:IsS26F A0 c0 A1 c1 w0 W g f0 f1):IsS26 w0 W g f0 f1:=⟨A0,c0,A1,c1,h⟩
theorem IsS26F.below {A0:Option Addr} {c0:Nat} {A1:Option Addr} {c1:Nat} {w0 W:World} {g:Nat} {f0:List Int} {f1:List (S77)} {W1:World} (h:IsS26F A0 c0 A1 c1 w0 W g f0 f1) (hw:Below W.heap.size W W1):IsS26F A0 c0 A1 c1 w0 W1 g f0 f1:=⟨kb h.1 hw,h.2⟩
theorem IsS26F.alloc {A0:Option Addr} {c0:Nat} {A1:Option Addr} {c1:Nat} {w0 W:World} {g:Nat} {f0:List Int} {f1:List (S77)} (h:IsS26F A0 c0 A1 c1 w0 W g f0 f1) (o:Obj):IsS26F A0 c0 A1 c1 w0 (W.alloc o) g f0 f1:=h.below (bwa (Below.refl _ _) o)
theorem IsS26F.drewN {A0:Option Addr} {c0:Nat} {A1:Option Addr} {c1:Nat} {w0 W:World} {g:Nat} {f0:List Int} {f1:List (S77)} (h:IsS26F A0 c0 A1 c1 w0 W g f0 f1) (m:Nat):IsS26F A0 c0 A1 c1 w0 (W.drewN m) g f0 f1:=h
theorem IsS26F.drew {A0:Option Addr} {c0:Nat} {A1:Option Addr} {c1:Nat} {w0 W:World} {g:Nat} {f0:List Int} {f1:List (S77)} (h:IsS26F A0 c0 A1 c1 w0 W g f0 f1):IsS26F A0 c0 A1 c1 w0 W.drew g f0 f1:=h
theorem IsS26F.far {A0:Option Addr} {c0:Nat} {A1:Option Addr} {c1:Nat} {w0 W:World} {g:Nat} {f0:List Int} {f1:List (S77)} {p:Addr} (h:IsS26F A0 c0 A1 c1 w0 W g f0 f1) (hne:g ≠ p.block) (u:Value):IsS26F A0 c0 A1 c1 w0 (W.setCell p u) g f0 f1:=⟨blk_far h.1 hne u,h.2⟩
theorem IsS26F.ge {A0:Option Addr} {c0:Nat} {A1:Option Addr} {c1:Nat} {w0 W:World} {g:Nat} {f0:List Int} {f1:List (S77)} (h:IsS26F A0 c0 A1 c1 w0 W g f0 f1):w0.heap.size≤g:=h.2.1
theorem IsS26F.lt {A0:Option Addr} {c0:Nat} {A1:Option Addr} {c1:Nat} {w0 W:World} {g:Nat} {f0:List Int} {f1:List (S77)} (h:IsS26F A0 c0 A1 c1 w0 W g f0 f1):g < W.heap.size:=IsS26.lt h.to
theorem IsS26F.ex {A0:Option Addr} {c0:Nat} {A1:Option Addr} {c1:Nat} {w0 W:World} {g:Nat} {f0:List Int} {f1:List (S77)} (h:IsS26F A0 c0 A1 c1 w0 W g f0 f1):∃ B0,∃ d0,∃ B1,∃ d1,(B0=A0∧d0=c0∧B1=A1∧d1=c1)∧W.heap[g]? = some (.cells #[.slice B0 f0.length d0,.slice B1 f1.length d1] 26 (0,0))∧w0.heap.size≤g∧Kd.C (Kd.int .i64) w0 B0 f0.length f0∧f0.length≤d0∧Kd.C k77 w0 B1 f1.length f1∧f1.length≤d1:=⟨A0,c0,A1,c1,⟨rfl,rfl,rfl,rfl⟩,h⟩
/-! ### impl_Skip_next: function 41 -/
def impl_Skip_next.f (s0_0:List Int) (s0_1:List (S77)) (a1:Int) (a2:Int):Option (Int):=if a1=(-1) then (if 0≤a2 then (if a2 < (s0_0.length:Int) then (some (rd s0_0 a2)) else (none)) else (none)) else (if 0≤a1 then (if a1 < (s0_1.length:Int) then (if 0≤a2 then (if a2 < (((rd_T77 s0_1 a1).f1).length:Int) then (some (rd ((rd_T77 s0_1 a1).f1) a2)) else (none)) else (none)) else (none)) else (none))
set_option maxHeartbeats 8000000 in
set_option maxRecDepth 100000 in
theorem impl_Skip_next.calls (g:Nat) (s0_0:List Int) (s0_1:List (S77)) (a1:Int) (a2:Int) (r:Int) (w0 w:World) (hI:IsS26 w0 w g s0_0 s0_1) (hB:Below w0.heap.size w0 w) (h:impl_Skip_next.f s0_0 s0_1 a1 a2=some r) :
    Calls Tryd.prog 41 #[.pointer (some ⟨g,0,none⟩),.int .i64 a1,.int .i64 a2] w fun e w'=>e = .returned (.int .i64 r)∧Drawn0 w w':=by
 have HI0:=AsZ.mk hI;have HK:=AsZ.mk (KeepBut.refl w g none);have HL:=AsZ.mk hB.size;clear hI;have HW0:=AsZ.mk hB.size;have HB:=AsZ.mk hB;clear hB;have H:(if a1=(-1) then (if 0≤a2 then (if a2 < (s0_0.length:Int) then (some (rd s0_0 a2)) else (none)) else (none)) else (if 0≤a1 then (if a1 < (s0_1.length:Int) then (if 0≤a2 then (if a2 < (((rd_T77 s0_1 a1).f1).length:Int) then (some (rd ((rd_T77 s0_1 a1).f1) a2)) else (none)) else (none)) else (none)) else (none)))=some r:=h;clear h;by_cases c4:a1=(-1)
 · rw [if_pos c4] at H
   have c4b0:(a1 == (-1))=true:=beq_iff_eq.mpr c4;have c4b1:(a1 != (-1))=false:=bne_eq_false_iff_eq.mpr c4;clear c4;by_cases c5:0≤a2;rotate_left
   · rw [if_neg c5] at H
     exact absurd H (by simp)
   rw [if_pos c5] at H;have c5b0:decide (0≤a2)=true:=zE c5;clear c5;by_cases c6:a2 < (s0_0.length:Int);rotate_left
   · rw [if_neg c6] at H
     exact absurd H (by simp)
   rw [if_pos c6] at H;have c6b0:decide (a2 < (s0_0.length:Int))=true:=zE c6;clear c6;obtain rfl:=zI H;obtain ⟨ASz7_0,cSz7_0,ASz7_1,cSz7_1,HGz7,hgz7,HSz7_0,HSCz7_0,HSz7_1,HSCz7_1⟩:=HI0.out;have hcz7_0:=cellS26_0 HGz7;have hcz7_1:=cellS26_1 HGz7;clear HGz7 hgz7;have p121:0≤(a2:Int):=dd;have q121:a2 < (s0_0.length:Int):=dd;obtain ⟨ad121,e121,hx121_0⟩:=Kd.at_int HSz7_0 a2 p121 q121;cases e121;replace hx121_0:=pcb HB.out hx121_0;replace p121:=eq_true p121;replace q121:=eq_true q121;go_enter Tryd.func41,Tryd.ntmps41;go_wp2;go_ret;exact ⟨rs,dw⟩
 rw [if_neg c4] at H;have c4b0:(a1 == (-1))=false:=beq_eq_false_iff_ne.mpr c4;have c4b1:(a1 != (-1))=true:=bne_iff_ne.mpr c4;by_cases c8:0≤a1;rotate_left
 · rw [if_neg c8] at H
   exact absurd H (by simp)
 rw [if_pos c8] at H;have c8b0:decide (0≤a1)=true:=zE c8;clear c8;by_cases c9:a1 < (s0_1.length:Int);rotate_left
 · rw [if_neg c9] at H
   exact absurd H (by simp)
 rw [if_pos c9] at H;have c9b0:decide (a1 < (s0_1.length:Int))=true:=zE c9;clear c9;by_cases c10:0≤a2;rotate_left
 · rw [if_neg c10] at H
   exact absurd H (by simp)
 rw [if_pos c10] at H;have c10b0:=zE c10;clear c10;by_cases c11:a2 < (((rd_T77 s0_1 a1).f1).length:Int);rotate_left
 · rw [if_neg c11] at H
   exact absurd H (by simp)
 rw [if_pos c11] at H;have c11b0:=zE c11;clear c11;obtain rfl:=zI H;obtain ⟨ASz12_0,cSz12_0,ASz12_1,cSz12_1,HGz12,hgz12,HSz12_0,HSCz12_0,HSz12_1,HSCz12_1⟩:=HI0.out;have hcz12_0:=cellS26_0 HGz12;have hcz12_1:=cellS26_1 HGz12;clear HGz12 hgz12;have p122:0≤(a1:Int):=dd;have q122:a1 < (s0_1.length:Int):=dd;obtain ⟨ad122,A122_4,c122_4,e122,hx122_0,hx122_1,hx122_2,hx122_3,hx122_4,hl122_4,hi122_4⟩:=at_T77 HSz12_1 a1 p122 q122;cases e122;replace hx122_0:=pcb HB.out hx122_0;replace hx122_1:=pcb HB.out hx122_1;replace hx122_2:=pcb HB.out hx122_2;replace hx122_3:=pcb HB.out hx122_3;replace hx122_4:=pcb HB.out hx122_4;have HR122_4:=AsZ.mk hi122_4;have HC122_4:=AsZ.mk hl122_4;clear hi122_4 hl122_4;replace p122:=eq_true p122;replace q122:=eq_true q122;have p123:0≤(a2:Int):=dd;have q123:a2 < (((rd_T77 s0_1 a1).f1).length:Int):=dd;obtain ⟨ad123,e123,hx123_0⟩:=Kd.at_int HR122_4.out a2 p123 q123;cases e123;replace hx123_0:=pcb HB.out hx123_0;replace p123:=eq_true p123;replace q123:=eq_true q123;go_enter Tryd.func41,Tryd.ntmps41;go_wp2;go_ret;exact ⟨rs,dw⟩
def impl_Skip_next2.f (s0_0:List Int) (s0_1:List (S77)) (a1:Int) (a2:Int):Option (Int):=impl_Skip_next.f s0_0 s0_1 a1 a2
set_option maxHeartbeats 4000000 in
set_option maxRecDepth 100000 in
theorem impl_Skip_next2.calls (A0:Option Addr) (c0:Nat) (H:List Int) (A1:Option Addr) (c1:Nat) (T:List S77) (a1 a2 r:Int) (w:World) (hr0:Kd.C (Kd.int .i64) w A0 H.length H) (hc0:H.length≤c0) (hr1:Kd.C k77 w A1 T.length T) (hc1:T.length≤c1) (h:impl_Skip_next2.f H T a1 a2=some r) (g:Nat) (hg:w.heap[g]? = some (.cells #[.slice A0 H.length c0,.slice A1 T.length c1] 26 (0,0))) :
    Calls Tryd.prog 41 #[.pointer (some ⟨g,0,none⟩),.int .i64 a1,.int .i64 a2] w fun e w'=>e = .returned (.int .i64 r)∧Below w.heap.size w w':=by
 unfold impl_Skip_next2.f at h;unfold impl_Skip_next.f at h;have hx0:w.cell? ⟨g,0,none⟩=some (.slice A0 H.length c0):=(kc hg 0).trans rfl;have hx1:w.cell? ⟨g,1,none⟩=some (.slice A1 T.length c1):=(kc hg 1).trans rfl;clear hg;by_cases c4:a1 = -1
 · rw [if_pos c4] at h
   subst c4;by_cases c5:0≤a2;rotate_left
   · rw [if_neg c5] at h;exact absurd h (by simp)
   rw [if_pos c5] at h;by_cases c6:a2 < (H.length:Int);rotate_left
   · rw [if_neg c6] at h;exact absurd h (by simp)
   rw [if_pos c6] at h;obtain rfl:=zI h;clear h;obtain ⟨ad,e,hx⟩:=Kd.at_int hr0 a2 c5 c6;cases e;have c5b:=zE c5;have c6b:=zE c6;replace c5:=eq_true c5;replace c6:=eq_true c6;clear hr0 hr1 hx1;go_enter Tryd.func41,Tryd.ntmps41;go_wp2;go_ret;exact ⟨by first|rfl|(simp;done),by repeat (first|exact Below.refl _ _|apply bwa|apply pbN|apply bw1)⟩
 rw [if_neg c4] at h;have c4b0:(a1 == (-1))=false:=beq_eq_false_iff_ne.mpr c4;have c4b1:(a1 != (-1))=true:=bne_iff_ne.mpr c4;by_cases c8:0≤a1;rotate_left
 · rw [if_neg c8] at h;exact absurd h (by simp)
 rw [if_pos c8] at h;by_cases c9:a1 < (T.length:Int);rotate_left
 · rw [if_neg c9] at h;exact absurd h (by simp)
 rw [if_pos c9] at h;by_cases c5:0≤a2;rotate_left
 · rw [if_neg c5] at h;exact absurd h (by simp)
 rw [if_pos c5] at h;by_cases c6:a2 < (((rd_T77 T a1).f1).length:Int);rotate_left
 · rw [if_neg c6] at h;exact absurd h (by simp)
 rw [if_pos c6] at h;obtain rfl:=zI h;clear h;obtain ⟨ad,A4,c44,e,hy0,hy1,hy2,hy3,hy4,hl4,hi4⟩:=at_T77 hr1 a1 c8 c9;cases e;obtain ⟨ad2,e2,hx⟩:=Kd.at_int hi4 a2 c5 c6;cases e2;have c5b:=zE c5;have c6b:=zE c6;have c8b:=zE c8;have c9b:=zE c9;replace c5:=eq_true c5;replace c6:=eq_true c6;replace c8:=eq_true c8;replace c9:=eq_true c9;clear hr0 hr1 hx0 hl4 hi4;go_enter Tryd.func41,Tryd.ntmps41;go_wp2;go_ret;exact ⟨by first|rfl|(simp;done),by repeat (first|exact Below.refl _ _|apply bwa|apply pbN|apply bw1)⟩
/-! ### cmp_Or_int: function 81 -/
def cmp_Or_int.l0:Nat→Int→List Int→Int→Int→Option (Int)
  |0,_,_,_,_=>none
  |k + 1,x3,x6,x7,x8=>if x8 < x7 then (if 0≤x8 then (if x8 < (x6.length:Int) then (if (rd x6 x8)=x3 then (cmp_Or_int.l0 k x3 x6 x7 (wrap64 (x8 + 1))) else (some (rd x6 x8))) else (none)) else (none)) else (some x3)
def cmp_Or_int.f (k:Nat) (l0:List Int):Option (Int):=cmp_Or_int.l0 k 0 l0 (l0.length:Int) 0
theorem cmp_Or_int.mono_l:∀ k,(∀ y0 y1 y2 y3,LeO (cmp_Or_int.l0 k y0 y1 y2 y3) (cmp_Or_int.l0 (k + 1) y0 y1 y2 y3))
  |0=>fun _ _ _ _ r h=>by simp [cmp_Or_int.l0] at h
  |k + 1=>by
    have ih0:=cmp_Or_int.mono_l k
    · intro y0 y1 y2 y3
      unfold cmp_Or_int.l0;exact mo
theorem cmp_Or_int.mono:∀ a0 k,LeO (cmp_Or_int.f k a0) (cmp_Or_int.f (k + 1) a0):=by
  intro a0 k;have ih0:=cmp_Or_int.mono_l k;unfold cmp_Or_int.f;exact mo
set_option maxHeartbeats 8000000 in
set_option maxRecDepth 100000 in
theorem cmp_Or_int.calls (k:Nat) (A0:Option Addr) (c0:Nat) (l0:List Int) (r:Int) (w:World) (hr0:Kd.C (Kd.int .i64) w A0 l0.length l0) (hc0:l0.length≤c0) (h:cmp_Or_int.f k l0=some r) :
    Calls Tryd.prog 81 #[.slice A0 l0.length c0] w fun e w'=>e = .returned (.int .i64 r)∧Drawn0 w w':=by
 have HR0:=AsZ.mk hr0;have HC0:=AsZ.mk hc0;clear hr0 hc0;have H:(cmp_Or_int.l0 k 0 l0 (l0.length:Int) 0)=some r:=h;clear h;have H':=AsZ.mk H;clear H;go_enter Tryd.func81,Tryd.ntmps81;go_wp2
 go_loopg [8] k (fun kq v8 w' => ∃ (x8_1:Int),v8 = .int .i64 x8_1∧AsZ (cmp_Or_int.l0 kq 0 l0 (l0.length:Int) x8_1=some r)∧AsZ (kq≤k)∧Drawn0 w w')
 case atStart=>exact ⟨(0),rs,H',⟨Nat.le_refl _⟩,dw⟩
 case round =>
  clear H';obtain ⟨x8_1,rfl,HA,HK1,⟨m1,rfl⟩⟩:=hrel
  cases gk with
  |zero=>exact absurd HA.out (by simp [cmp_Or_int.l0])
  |succ k1 =>
   have H:=HA.out;clear HA;simp only [cmp_Or_int.l0] at H;by_cases c2:x8_1 < (l0.length:Int);rotate_left
   · rw [if_neg c2] at H
     have c2b0:=decide_eq_false c2;clear c2;obtain rfl:=zI H;go_wp2;go_ret;exact ⟨rs,dw⟩
   rw [if_pos c2] at H;have c2b0:=zE c2;clear c2;by_cases c3:0≤x8_1;rotate_left
   · rw [if_neg c3] at H
     exact absurd H (by simp)
   rw [if_pos c3] at H;have c3b0:=zE c3;clear c3;by_cases c4:x8_1 < (l0.length:Int);rotate_left
   · rw [if_neg c4] at H
     exact absurd H (by simp)
   rw [if_pos c4] at H;have c4b0:decide (x8_1 < (l0.length:Int))=true:=zE c4;clear c4;by_cases c5:(rd l0 x8_1)=0;rotate_left
   · rw [if_neg c5] at H
     have c5b0:((rd l0 x8_1) == 0)=false:=beq_eq_false_iff_ne.mpr c5;have c5b1:((rd l0 x8_1) != 0)=true:=bne_iff_ne.mpr c5;obtain rfl:=zI H;have p124:0≤(x8_1:Int):=dd;have q124:x8_1 < (l0.length:Int):=dd;obtain ⟨ad124,e124,hx124_0⟩:=Kd.at_int HR0.out x8_1 p124 q124;cases e124;replace p124:=eq_true p124;replace q124:=eq_true q124;go_wp2;go_ret;exact ⟨rs,dw⟩
   rw [if_pos c5] at H;have c5b0:((rd l0 x8_1) == 0)=true:=beq_iff_eq.mpr c5;have c5b1:((rd l0 x8_1) != 0)=false:=bne_eq_false_iff_eq.mpr c5;clear c5;have H':=AsZ.mk H;clear H;have p124:0≤(x8_1:Int):=dd;have q124:x8_1 < (l0.length:Int):=dd;obtain ⟨ad124,e124,hx124_0⟩:=Kd.at_int HR0.out x8_1 p124 q124;cases e124;replace p124:=eq_true p124;replace q124:=eq_true q124;go_wp2;go_roundg k1
   case measure=>have:=HK1.out;omega
   case rel=>exact ⟨(wrap64 (x8_1 + 1)),rs,H',⟨by have:=HK1.out;omega⟩,dw⟩
/-! ### cmp_isNaN_string: function 95 -/
def cmp_isNaN_string.f (a0:ByteArray):Option (Bool):=some (a0.toList != a0.toList)
set_option maxHeartbeats 8000000 in
set_option maxRecDepth 100000 in
theorem cmp_isNaN_string.calls (a0:ByteArray) (r:Bool) (w:World) (h:cmp_isNaN_string.f a0=some r) :
    Calls Tryd.prog 95 #[.string a0] w fun e w'=>e = .returned (.bool r)∧Drawn0 w w':=by
 have H:(some (a0.toList != a0.toList))=some r:=h;clear h;obtain rfl:=zI H;go_enter Tryd.func95,Tryd.ntmps95;go_wp2;go_ret;exact ⟨rs,dw⟩
/-! ### cmp_Compare_string: function 82 -/
def cmp_Compare_string.f (a0:ByteArray) (a1:ByteArray):Option (Int):=(cmp_isNaN_string.f a0).bind fun t125=>((cmp_isNaN_string.f a1).bind fun t126=>(if t125=true then (if t126=true then (some 0) else (some (-1))) else (if t126=true then (some 1) else (if (Op.bytesLess a0.toList a1.toList)=true then (some (-1)) else (if (Op.bytesLess a1.toList a0.toList)=true then (some 1) else (some 0))))))
set_option maxHeartbeats 8000000 in
set_option maxRecDepth 100000 in
theorem cmp_Compare_string.calls (a0:ByteArray) (a1:ByteArray) (r:Int) (w:World) (h:cmp_Compare_string.f a0 a1=some r) :
    Calls Tryd.prog 82 #[.string a0,.string a1] w fun e w'=>e = .returned (.int .i64 r)∧Drawn0 w w':=by
 have H:((cmp_isNaN_string.f a0).bind fun t125=>((cmp_isNaN_string.f a1).bind fun t126=>(if t125=true then (if t126=true then (some 0) else (some (-1))) else (if t126=true then (some 1) else (if (Op.bytesLess a0.toList a1.toList)=true then (some (-1)) else (if (Op.bytesLess a1.toList a0.toList)=true then (some 1) else (some 0)))))))=some r:=h;clear h;replace H:=bs H;obtain ⟨t125,A3,H⟩:=H;replace H:=bs H;obtain ⟨t126,A4,H⟩:=H;by_cases c5:t125=true
 · subst c5
   replace H:=iP H;by_cases c6:t126=true
   · subst c6
     replace H:=iP H;obtain rfl:=zI H;go_enter Tryd.func82,Tryd.ntmps82;go_wp2_with (first|((with_reducible refine gcl (f:=95) rfl ?_);refine gk (some 8) Tryd.func95 #[.string a0] ?_;(with_reducible refine (cmp_isNaN_string.calls a0 true _ A3.out).mono ?_);rintro e w' ⟨rfl,⟨nd,rfl⟩⟩;refine ⟨_,rfl,?_⟩)|((with_reducible refine gcl (f:=95) rfl ?_);refine gk (some 10) Tryd.func95 #[.string a1] ?_;(with_reducible refine (cmp_isNaN_string.calls a1 true _ A4.out).mono ?_);rintro e w' ⟨rfl,⟨nd,rfl⟩⟩;refine ⟨_,rfl,?_⟩));go_ret;exact ⟨rs,dw⟩
   replace c6:=Bool.eq_false_iff.mpr c6;subst c6;replace H:=iN H;obtain rfl:=zI H;go_enter Tryd.func82,Tryd.ntmps82;go_wp2_with (first|((with_reducible refine gcl (f:=95) rfl ?_);refine gk (some 8) Tryd.func95 #[.string a0] ?_;(with_reducible refine (cmp_isNaN_string.calls a0 true _ A3.out).mono ?_);rintro e w' ⟨rfl,⟨nd,rfl⟩⟩;refine ⟨_,rfl,?_⟩)|((with_reducible refine gcl (f:=95) rfl ?_);refine gk (some 10) Tryd.func95 #[.string a1] ?_;(with_reducible refine (cmp_isNaN_string.calls a1 false _ A4.out).mono ?_);rintro e w' ⟨rfl,⟨nd,rfl⟩⟩;refine ⟨_,rfl,?_⟩));go_ret;exact ⟨rs,dw⟩
 replace c5:=Bool.eq_false_iff.mpr c5;subst c5;replace H:=iN H;by_cases c7:t126=true
 · subst c7
   replace H:=iP H;obtain rfl:=zI H;go_enter Tryd.func82,Tryd.ntmps82;go_wp2_with (first|((with_reducible refine gcl (f:=95) rfl ?_);refine gk (some 8) Tryd.func95 #[.string a0] ?_;(with_reducible refine (cmp_isNaN_string.calls a0 false _ A3.out).mono ?_);rintro e w' ⟨rfl,⟨nd,rfl⟩⟩;refine ⟨_,rfl,?_⟩)|((with_reducible refine gcl (f:=95) rfl ?_);refine gk (some 10) Tryd.func95 #[.string a1] ?_;(with_reducible refine (cmp_isNaN_string.calls a1 true _ A4.out).mono ?_);rintro e w' ⟨rfl,⟨nd,rfl⟩⟩;refine ⟨_,rfl,?_⟩));go_ret;exact ⟨rs,dw⟩
 replace c7:=Bool.eq_false_iff.mpr c7;subst c7;replace H:=iN H;by_cases c8:(Op.bytesLess a0.toList a1.toList)=true
 · rw [if_pos c8] at H
   have c8b0:(Op.bytesLess a0.toList a1.toList)=true:=c8;clear c8;obtain rfl:=zI H;go_enter Tryd.func82,Tryd.ntmps82;go_wp2_with (first|((with_reducible refine gcl (f:=95) rfl ?_);refine gk (some 8) Tryd.func95 #[.string a0] ?_;(with_reducible refine (cmp_isNaN_string.calls a0 false _ A3.out).mono ?_);rintro e w' ⟨rfl,⟨nd,rfl⟩⟩;refine ⟨_,rfl,?_⟩)|((with_reducible refine gcl (f:=95) rfl ?_);refine gk (some 10) Tryd.func95 #[.string a1] ?_;(with_reducible refine (cmp_isNaN_string.calls a1 false _ A4.out).mono ?_);rintro e w' ⟨rfl,⟨nd,rfl⟩⟩;refine ⟨_,rfl,?_⟩));go_ret;exact ⟨rs,dw⟩
 rw [if_neg c8] at H;have c8b0:(Op.bytesLess a0.toList a1.toList)=false:=by simpa using c8
 clear c8;by_cases c9:(Op.bytesLess a1.toList a0.toList)=true
 · rw [if_pos c9] at H
   have c9b0:(Op.bytesLess a1.toList a0.toList)=true:=c9;clear c9;obtain rfl:=zI H;go_enter Tryd.func82,Tryd.ntmps82;go_wp2_with (first|((with_reducible refine gcl (f:=95) rfl ?_);refine gk (some 8) Tryd.func95 #[.string a0] ?_;(with_reducible refine (cmp_isNaN_string.calls a0 false _ A3.out).mono ?_);rintro e w' ⟨rfl,⟨nd,rfl⟩⟩;refine ⟨_,rfl,?_⟩)|((with_reducible refine gcl (f:=95) rfl ?_);refine gk (some 10) Tryd.func95 #[.string a1] ?_;(with_reducible refine (cmp_isNaN_string.calls a1 false _ A4.out).mono ?_);rintro e w' ⟨rfl,⟨nd,rfl⟩⟩;refine ⟨_,rfl,?_⟩));go_ret;exact ⟨rs,dw⟩
 rw [if_neg c9] at H;have c9b0:(Op.bytesLess a1.toList a0.toList)=false:=by simpa using c9
 clear c9;obtain rfl:=zI H;go_enter Tryd.func82,Tryd.ntmps82;go_wp2_with (first|((with_reducible refine gcl (f:=95) rfl ?_);refine gk (some 8) Tryd.func95 #[.string a0] ?_;(with_reducible refine (cmp_isNaN_string.calls a0 false _ A3.out).mono ?_);rintro e w' ⟨rfl,⟨nd,rfl⟩⟩;refine ⟨_,rfl,?_⟩)|((with_reducible refine gcl (f:=95) rfl ?_);refine gk (some 10) Tryd.func95 #[.string a1] ?_;(with_reducible refine (cmp_isNaN_string.calls a1 false _ A4.out).mono ?_);rintro e w' ⟨rfl,⟨nd,rfl⟩⟩;refine ⟨_,rfl,?_⟩));go_ret;exact ⟨rs,dw⟩
/-! ### cmp_isNaN_int: function 96 -/
def cmp_isNaN_int.f (a0:Int):Option (Bool):=some (a0 != a0)
set_option maxHeartbeats 8000000 in
set_option maxRecDepth 100000 in
theorem cmp_isNaN_int.calls (a0:Int) (r:Bool) (w:World) (h:cmp_isNaN_int.f a0=some r) :
    Calls Tryd.prog 96 #[.int .i64 a0] w fun e w'=>e = .returned (.bool r)∧Drawn0 w w':=by
 have H:(some (a0 != a0))=some r:=h;clear h;obtain rfl:=zI H;go_enter Tryd.func96,Tryd.ntmps96;go_wp2;go_ret;exact ⟨rs,dw⟩
/-! ### cmp_Compare_int: function 83 -/
def cmp_Compare_int.f (a0:Int) (a1:Int):Option (Int):=(cmp_isNaN_int.f a0).bind fun t127=>((cmp_isNaN_int.f a1).bind fun t128=>(if t127=true then (if t128=true then (some 0) else (some (-1))) else (if t128=true then (some 1) else (if a0 < a1 then (some (-1)) else (if a0 > a1 then (some 1) else (some 0))))))
set_option maxHeartbeats 8000000 in
set_option maxRecDepth 100000 in
theorem cmp_Compare_int.calls (a0:Int) (a1:Int) (r:Int) (w:World) (h:cmp_Compare_int.f a0 a1=some r) :
    Calls Tryd.prog 83 #[.int .i64 a0,.int .i64 a1] w fun e w'=>e = .returned (.int .i64 r)∧Drawn0 w w':=by
 have H:((cmp_isNaN_int.f a0).bind fun t127=>((cmp_isNaN_int.f a1).bind fun t128=>(if t127=true then (if t128=true then (some 0) else (some (-1))) else (if t128=true then (some 1) else (if a0 < a1 then (some (-1)) else (if a0 > a1 then (some 1) else (some 0)))))))=some r:=h;clear h;replace H:=bs H;obtain ⟨t127,A3,H⟩:=H;replace H:=bs H;obtain ⟨t128,A4,H⟩:=H;by_cases c5:t127=true
 · subst c5
   replace H:=iP H;by_cases c6:t128=true
   · subst c6
     replace H:=iP H;obtain rfl:=zI H;go_enter Tryd.func83,Tryd.ntmps83;go_wp2_with (first|((with_reducible refine gcl (f:=96) rfl ?_);refine gk (some 8) Tryd.func96 #[.int .i64 a0] ?_;(with_reducible refine (cmp_isNaN_int.calls a0 true _ A3.out).mono ?_);rintro e w' ⟨rfl,⟨nd,rfl⟩⟩;refine ⟨_,rfl,?_⟩)|((with_reducible refine gcl (f:=96) rfl ?_);refine gk (some 10) Tryd.func96 #[.int .i64 a1] ?_;(with_reducible refine (cmp_isNaN_int.calls a1 true _ A4.out).mono ?_);rintro e w' ⟨rfl,⟨nd,rfl⟩⟩;refine ⟨_,rfl,?_⟩));go_ret;exact ⟨rs,dw⟩
   replace c6:=Bool.eq_false_iff.mpr c6;subst c6;replace H:=iN H;obtain rfl:=zI H;go_enter Tryd.func83,Tryd.ntmps83;go_wp2_with (first|((with_reducible refine gcl (f:=96) rfl ?_);refine gk (some 8) Tryd.func96 #[.int .i64 a0] ?_;(with_reducible refine (cmp_isNaN_int.calls a0 true _ A3.out).mono ?_);rintro e w' ⟨rfl,⟨nd,rfl⟩⟩;refine ⟨_,rfl,?_⟩)|((with_reducible refine gcl (f:=96) rfl ?_);refine gk (some 10) Tryd.func96 #[.int .i64 a1] ?_;(with_reducible refine (cmp_isNaN_int.calls a1 false _ A4.out).mono ?_);rintro e w' ⟨rfl,⟨nd,rfl⟩⟩;refine ⟨_,rfl,?_⟩));go_ret;exact ⟨rs,dw⟩
 replace c5:=Bool.eq_false_iff.mpr c5;subst c5;replace H:=iN H;by_cases c7:t128=true
 · subst c7
   replace H:=iP H;obtain rfl:=zI H;go_enter Tryd.func83,Tryd.ntmps83;go_wp2_with (first|((with_reducible refine gcl (f:=96) rfl ?_);refine gk (some 8) Tryd.func96 #[.int .i64 a0] ?_;(with_reducible refine (cmp_isNaN_int.calls a0 false _ A3.out).mono ?_);rintro e w' ⟨rfl,⟨nd,rfl⟩⟩;refine ⟨_,rfl,?_⟩)|((with_reducible refine gcl (f:=96) rfl ?_);refine gk (some 10) Tryd.func96 #[.int .i64 a1] ?_;(with_reducible refine (cmp_isNaN_int.calls a1 true _ A4.out).mono ?_);rintro e w' ⟨rfl,⟨nd,rfl⟩⟩;refine ⟨_,rfl,?_⟩));go_ret;exact ⟨rs,dw⟩
 replace c7:=Bool.eq_false_iff.mpr c7;subst c7;replace H:=iN H;by_cases c8:a0 < a1
 · rw [if_pos c8] at H
   have c8b0:decide (a0 < a1)=true:=zE c8;clear c8;obtain rfl:=zI H;go_enter Tryd.func83,Tryd.ntmps83;go_wp2_with (first|((with_reducible refine gcl (f:=96) rfl ?_);refine gk (some 8) Tryd.func96 #[.int .i64 a0] ?_;(with_reducible refine (cmp_isNaN_int.calls a0 false _ A3.out).mono ?_);rintro e w' ⟨rfl,⟨nd,rfl⟩⟩;refine ⟨_,rfl,?_⟩)|((with_reducible refine gcl (f:=96) rfl ?_);refine gk (some 10) Tryd.func96 #[.int .i64 a1] ?_;(with_reducible refine (cmp_isNaN_int.calls a1 false _ A4.out).mono ?_);rintro e w' ⟨rfl,⟨nd,rfl⟩⟩;refine ⟨_,rfl,?_⟩));go_ret;exact ⟨rs,dw⟩
 rw [if_neg c8] at H;have c8b0:decide (a0 < a1)=false:=decide_eq_false c8;clear c8;by_cases c9:a0 > a1
 · rw [if_pos c9] at H
   have c9b0:decide (a1 < a0)=true:=zE c9;clear c9;obtain rfl:=zI H;go_enter Tryd.func83,Tryd.ntmps83;go_wp2_with (first|((with_reducible refine gcl (f:=96) rfl ?_);refine gk (some 8) Tryd.func96 #[.int .i64 a0] ?_;(with_reducible refine (cmp_isNaN_int.calls a0 false _ A3.out).mono ?_);rintro e w' ⟨rfl,⟨nd,rfl⟩⟩;refine ⟨_,rfl,?_⟩)|((with_reducible refine gcl (f:=96) rfl ?_);refine gk (some 10) Tryd.func96 #[.int .i64 a1] ?_;(with_reducible refine (cmp_isNaN_int.calls a1 false _ A4.out).mono ?_);rintro e w' ⟨rfl,⟨nd,rfl⟩⟩;refine ⟨_,rfl,?_⟩));go_ret;exact ⟨rs,dw⟩
 rw [if_neg c9] at H;have c9b0:decide (a1 < a0)=false:=decide_eq_false c9;clear c9;obtain rfl:=zI H;go_enter Tryd.func83,Tryd.ntmps83;go_wp2_with (first|((with_reducible refine gcl (f:=96) rfl ?_);refine gk (some 8) Tryd.func96 #[.int .i64 a0] ?_;(with_reducible refine (cmp_isNaN_int.calls a0 false _ A3.out).mono ?_);rintro e w' ⟨rfl,⟨nd,rfl⟩⟩;refine ⟨_,rfl,?_⟩)|((with_reducible refine gcl (f:=96) rfl ?_);refine gk (some 10) Tryd.func96 #[.int .i64 a1] ?_;(with_reducible refine (cmp_isNaN_int.calls a1 false _ A4.out).mono ?_);rintro e w' ⟨rfl,⟨nd,rfl⟩⟩;refine ⟨_,rfl,?_⟩));go_ret;exact ⟨rs,dw⟩
/-! ### impl_itemOrder: function 42 -/
def impl_itemOrder.f (k:Nat) (a0_0:ByteArray) (a0_1:Int) (a0_2:Int) (a0_3:ByteArray) (a1_0:ByteArray) (a1_1:Int) (a1_2:Int) (a1_3:ByteArray):Option (Int):=(cmp_Compare_string.f a0_0 a1_0).bind fun t131=>((cmp_Compare_int.f a1_1 a0_1).bind fun t132=>((cmp_Or_int.f k (([t131,t132]:List Int))).bind fun t136=>(some t136)))
theorem impl_itemOrder.mono:∀ a0 a1 a2 a3 a4 a5 a6 a7 k,LeO (impl_itemOrder.f k a0 a1 a2 a3 a4 a5 a6 a7) (impl_itemOrder.f (k + 1) a0 a1 a2 a3 a4 a5 a6 a7):=by
  intro a0 a1 a2 a3 a4 a5 a6 a7 k;unfold impl_itemOrder.f;have j0:=@cmp_Or_int.mono;exact mo
def impl_itemOrder.T1:Bool × List (List Nat × List Nat):=(true,[([],[]),([0],[0]),([],[]),([2],[2]),([1,3],[1,3]),([],[]),([5],[5]),([],[]),([7],[7]),([6,8,4],[6,8]),([4,9],[4,9]),([10,9],[10]),([11,11,0,1,2,3,4,5,6,7,8,9,10,11],[11])])
def impl_itemOrder.B1:List Nat:=[0,1,0,4,15,0,32,0,128,511,1023,2047,4095]
theorem impl_itemOrder.tab1:rtab .any (opsOf Tryd.f42 1)=impl_itemOrder.T1:=by kernel_rfl
theorem impl_itemOrder.bits1:waitsOk impl_itemOrder.T1.2 impl_itemOrder.B1=true:=by kernel_rfl
set_option maxHeartbeats 8000000 in
set_option maxRecDepth 100000 in
theorem impl_itemOrder.calls (k:Nat) (a0_0:ByteArray) (a0_1:Int) (a0_2:Int) (a0_3:ByteArray) (a1_0:ByteArray) (a1_1:Int) (a1_2:Int) (a1_3:ByteArray) (r:Int) (w:World) (h:impl_itemOrder.f k a0_0 a0_1 a0_2 a0_3 a1_0 a1_1 a1_2 a1_3=some r) :
    Calls Tryd.prog 42 #[.agg #[.string a0_0,.int .i64 a0_1,.int .i64 a0_2,.string a0_3],.agg #[.string a1_0,.int .i64 a1_1,.int .i64 a1_2,.string a1_3]] w fun e w'=>e = .returned (.int .i64 r)∧Below w.heap.size w w':=by
 have hu28:=Tryd.underlying28;have HB:=AsZ.mk (Below.refl w.heap.size w);have H:((cmp_Compare_string.f a0_0 a1_0).bind fun t131=>((cmp_Compare_int.f a1_1 a0_1).bind fun t132=>((cmp_Or_int.f k (([t131,t132]:List Int))).bind fun t136=>(some t136))))=some r:=h;clear h;replace H:=bs H;obtain ⟨t131,A3,H⟩:=H;replace H:=bs H;obtain ⟨t132,A4,H⟩:=H;obtain ⟨y133,hy133⟩:∃ y_:List Int,y_=(([t131,t132]:List Int)):=⟨_,rfl⟩;replace H:((cmp_Or_int.f k y133).bind fun t136=>(some t136))=some r:=ry hy133 H;have Ny133:=AsZ.mk hy133;clear hy133;replace H:=bs H;obtain ⟨t136,A5,H⟩:=H;obtain rfl:=zI H;go_enter Tryd.func42,Tryd.ntmps42
 try go_wp2_with (first|((with_reducible refine gate_dst (N:=2) rfl ?_);refine bev 2 28 (cs:=#[.string a0_0,.int .i64 a0_1,.int .i64 a0_2,.string a0_3]) ?_;intro gb129 hg w6 hbox hb;have BK129:=AsZ.mk (hbox);have GW129:=gz HB hg;have GE129:=gz HB hg;replace HB:=bp hb;clear hb hbox hg)|((with_reducible refine gate_dst (N:=3) rfl ?_);refine bev 3 28 (cs:=#[.string a1_0,.int .i64 a1_1,.int .i64 a1_2,.string a1_3]) ?_;intro gb130 hg w7 hbox hb;have BK130:=AsZ.mk (hbox);have GW130:=gz HB hg;have GE130:=gz HB hg;have NB129_130:=nl BK129 hg;have NB130_129:=nr BK129 hg;replace BK129:=bb BK129 hb;replace HB:=bp hb;clear hb hbox hg))
 replace BK129:=db BK129;replace BK130:=db BK130;replace HB:=dB HB;refine start_ (n:=13) (S:=fun w'=>w'.cell? ⟨gb129,0,none⟩=some (.string a0_0)∧w'.cell? ⟨gb129,1,none⟩=some (.int .i64 a0_1)∧w'.cell? ⟨gb129,2,none⟩=some (.int .i64 a0_2)∧w'.cell? ⟨gb129,3,none⟩=some (.string a0_3)∧w'.cell? ⟨gb130,0,none⟩=some (.string a1_0)∧w'.cell? ⟨gb130,1,none⟩=some (.int .i64 a1_1)∧w'.cell? ⟨gb130,2,none⟩=some (.int .i64 a1_2)∧w'.cell? ⟨gb130,3,none⟩=some (.string a1_3)) (ds:=[]) (b_ 0 13) (by kernel_rfl) rfl rfl cl (fun hHeld=>?_);refine with_tabW impl_itemOrder.tab1 impl_itemOrder.bits1 (fun HT_ HW_=>?_);generalize w7.drew=w8 at BK129 BK130 HB hHeld ⊢;refine pu 0 5 (b_ 1 12) HT_.out ?_;refine pu 2 7 #[true,false,true,false,false,false,false,false,false,false,false,false,false] HT_.out ?_;refine pu 5 10 #[true,false,true,false,false,true,false,false,false,false,false,false,false] HT_.out ?_;refine pu 7 12 #[true,false,true,false,false,true,false,true,false,false,false,false,false] HT_.out ?_;refine tk8 1 6 #[true,true,true,false,false,true,false,true,false,false,false,false,false] HT_.out HW_.out hHeld ?_;refine tk8 3 8 #[true,true,true,true,false,true,false,true,false,false,false,false,false] HT_.out HW_.out hHeld ?_;refine tk8 6 11 #[true,true,true,true,false,true,true,true,false,false,false,false,false] HT_.out HW_.out hHeld ?_;refine tk8 8 13 #[true,true,true,true,false,true,true,true,true,false,false,false,false] HT_.out HW_.out hHeld ?_;refine on 4 (some 9) (b_ 9 4) HT_.out (fun K hK=>?_);refine gs Tryd.func82 #[.string a0_0,.string a1_0] ?_
 with_reducible refine (cmp_Compare_string.calls a0_0 a1_0 t131 _ A3.out).mono ?_
 rintro e w' ⟨rfl,⟨nd,rfl⟩⟩;refine ⟨_,rfl,?_⟩;refine hK.out _ _ cl (fun hHeld=>?_);clear hK K;refine norm_ (a':=?_) ?_ ?_;rotate_left
 · show Act.put _ (some 9) _=_
   simp only [Act.put,zS,zT,zU,i64_w,i32_w]
   rfl
 refine on 9 (some 14) (b_ 10 3) HT_.out (fun K hK=>?_);refine gs Tryd.func83 #[.int .i64 a1_1,.int .i64 a0_1] ?_
 with_reducible refine (cmp_Compare_int.calls a1_1 a0_1 t132 _ A4.out).mono ?_
 rintro e w' ⟨rfl,⟨nd,rfl⟩⟩;refine ⟨_,rfl,?_⟩;refine hK.out _ _ cl (fun hHeld=>?_);clear hK K;refine norm_ (a':=?_) ?_ ?_;rotate_left
 · show Act.put _ (some 14) _=_
   simp only [Act.put,zS,zT,zU,i64_w,i32_w]
   rfl
 refine on 10 (some 15) (b_ 11 2) HT_.out (fun K hK=>?_);refine Kd.R_lit_step (Kd.int .i64) _ 3 ?hg (N:=15) ?hd (xs:=([t131,t132]:List Int)) (inner:=[.int .i64 t131,.int .i64 t132]) (ok:=fun _=>True) (okp:=fun _=>True) ?hr ?hp (fun _ hk=>hk) trivial (Below.refl _ _) (Nat.le_refl _) (by simp) ?_;(case hd=>rfl);(case hg=>rfl);(case hr=>first|(go_simp;done)|(go_simp;rfl));(case hp=>exact (Reps.one (show Kd.M (Kd.int .i64) _ _ _ t131 [.int .i64 t131] from rfl) (Reps.one (show Kd.M (Kd.int .i64) _ _ _ t132 [.int .i64 t132] from rfl) (Reps.none _ _))));intro v134 w9 ho10 hb hg_ hnew_;clear hg_ hnew_;(first|rw [← Ny133.out] at ho10|(simp only [Int.reduceToNat] at ho10;rw [← Ny133.out] at ho10));have HO135:=AsZ.mk (Kd.R_lower ho10 (bwz bel));replace BK129:=bb BK129 hb;replace BK130:=bb BK130 hb;replace HB:=bp hb;clear hb ho10;obtain ⟨Ao11,co11,eo11⟩:=Kd.R_slice HO135.out;(first|subst eo11|(injection eo11 with f1_ f2_ f3_;have f4_:=f1_.symm;have f5_:=f3_.symm;clear f1_ f2_ f3_;subst f4_;subst f5_));refine hK.out _ _ cl (fun hHeld=>?_);clear hK K;refine norm_ (a':=?_) ?_ ?_;rotate_left
 · show Act.put _ (some 15) _=_
   simp only [Act.put,zS,zT,zU,i64_w,i32_w]
   rfl
 refine on 11 (some 16) (b_ 12 1) HT_.out (fun K hK=>?_);refine gs Tryd.func81 #[.slice Ao11 y133.length co11] ?_
 with_reducible refine (cmp_Or_int.calls k _ _ y133 t136 _ ?side1 ?side2 A5.out).mono ?_
 (case side1=>exact cC (Kd.R_reads' HO135.out).2.2)
 (case side2=>exact (Kd.R_reads' HO135.out).2.1)
 rintro e w' ⟨rfl,⟨nd,rfl⟩⟩;refine ⟨_,rfl,?_⟩;refine hK.out _ _ cl (fun hHeld=>?_);clear hK K;refine norm_ (a':=?_) ?_ ?_;rotate_left
 · show Act.put _ (some 16) _=_
   simp only [Act.put,zS,zT,zU,i64_w,i32_w]
   rfl
 refine pu 12 4 (b_ 13 0) HT_.out ?_;refine dn_ (dnO HT_.out (by kernel_rfl)) ?_
 try go_wp2
 go_ret;exact ⟨re,bel⟩
end Go.Proofs.YtffjlpphcjfdgaaDoor.MFnExactInsertSkip
