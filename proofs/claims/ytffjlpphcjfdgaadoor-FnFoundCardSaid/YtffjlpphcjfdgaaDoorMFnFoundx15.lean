-- Written by a program of this session out of the translation. Not trusted: Lean checks it.
import Derived.Test.YtffjlpphcjfdgaaDoorMFnFoundx0
namespace Go.Proofs.YtffjlpphcjfdgaaDoor.MFnFound
-- short
-- shrunk
-- TAB
-- RD
open Go.Proofs.YtffjlpphcjfdgaaDoor Go.RowKit Go.Proofs.YtffjlpphcjfdgaaDoorW.PrintWords Go.Proofs.YtffjlpphcjfdgaaDoorW.PrintLast Go.Proofs.YtffjlpphcjfdgaaDoorW.PrintMore Go.Proofs.YtffjlpphcjfdgaaDoorX
attribute [local go_sem] max2_int min2_int max_two min_two max_three min_three max_four min_four str_gtr str_leq str_geq cell_twice
set_option linter.unusedVariables false
set_option linter.unusedSimpArgs false
-- COMPACT
/-- A state of type 68 at block g of W; what its slices lead to came in by w0. -/
def IsS68 (w0 W:World) (g:Nat) (f0:List Int) (f1:Int) (f2:Int):Prop := ∃ A0 c0,W.heap[g]? = some (.cells #[.slice A0 f0.length c0,.int .i64 f1,.int .u64 f2] 68 (0,0))∧w0.heap.size≤g∧Kd.C (Kd.int .u8) w0 A0 f0.length f0∧f0.length≤c0
theorem IsS68.grown {w0 W:World} {g:Nat} {f0:List Int} {f1:Int} {f2:Int} {W1:World} {row:Option Nat} (h:IsS68 w0 W g f0 f1 f2) (hw:W.grownBy W1 row) (hne:some g ≠ row):IsS68 w0 W1 g f0 f1 f2:=by
  obtain ⟨A0,c0,hb,hg,hr0,hl0⟩:=h
  exact ⟨A0,c0,blk_grown hb hw hne,hg,hr0,hl0⟩
theorem IsS68.own_neN {w0 W:World} {g:Nat} {f0:List Int} {f1:Int} {f2:Int} {α:Type} {d:Kd α} {e:Nat} {base:Nat} {ok:Nat→Prop} {v:Value} {xs:List α} (h:IsS68 w0 W g f0 f1 f2) (ho:Kd.N d e W base ok v xs) (ht:e ≠ 68):some g ≠ v.ownBlock:=by
  obtain ⟨A0,c0,hb,hg,hr0,hl0⟩:=h
  exact Kd.N_ne ho hb ht
theorem IsS68.fresh {w0 W:World} {g:Nat} {f0:List Int} {f1:Int} {f2:Int} (h:IsS68 w0 W g f0 f1 f2):∀ k,W.heap.size≤k→k ≠ g:=by
  obtain ⟨A0,c0,hb,hg,hr0,hl0⟩:=h
  exact Kd.freshB hb
theorem IsS68.kept {w0 W:World} {g:Nat} {f0:List Int} {f1:Int} {f2:Int} {W1:World} {S:Nat→Prop} (h:IsS68 w0 W g f0 f1 f2) (hk:Kept W W1 S) (hne:¬ S g):IsS68 w0 W1 g f0 f1 f2:=by
  obtain ⟨A0,c0,hb,hg,hr0,hl0⟩:=h
  exact ⟨A0,c0,blk_kept hb hk hne,hg,hr0,hl0⟩
theorem IsS68.below {w0 W:World} {g:Nat} {f0:List Int} {f1:Int} {f2:Int} {W1:World} (h:IsS68 w0 W g f0 f1 f2) (hw:Below W.heap.size W W1):IsS68 w0 W1 g f0 f1 f2:=h.grown (grown_of_below hw none) (by simp)
theorem IsS68.alloc {w0 W:World} {g:Nat} {f0:List Int} {f1:Int} {f2:Int} (h:IsS68 w0 W g f0 f1 f2) (o:Obj):IsS68 w0 (W.alloc o) g f0 f1 f2:=h.below (bwa (Below.refl _ _) o)
theorem IsS68.drewN {w0 W:World} {g:Nat} {f0:List Int} {f1:Int} {f2:Int} (h:IsS68 w0 W g f0 f1 f2) (m:Nat):IsS68 w0 (W.drewN m) g f0 f1 f2:=h
theorem IsS68.drew {w0 W:World} {g:Nat} {f0:List Int} {f1:Int} {f2:Int} (h:IsS68 w0 W g f0 f1 f2):IsS68 w0 W.drew g f0 f1 f2:=h
theorem IsS68.at_ {w0 W:World} {g:Nat} {f0:List Int} {f1:Int} {f2:Int} {w':World} {m:Nat} (hq:W.drewN m=w') (h:IsS68 w0 W g f0 f1 f2):IsS68 w0 w' g f0 f1 f2:=by subst hq;exact IsS68.drewN h m
theorem IsS68.apart {w0 W:World} {g:Nat} {f0:List Int} {f1:Int} {f2:Int} {α:Type} {d:Kd α} {e:Nat} {base:Nat} {ok:Nat→Prop} {v:Value} {xs:List α} (h:IsS68 w0 W g f0 f1 f2) (ho:d.R e W base ok v xs) (ht:∀ q,q ∈ e :: d.E→q ≠ 68):d.R e W base (fun k=>ok k∧k ≠ g) v xs:=by
  obtain ⟨A0,c0,hb,hg,hr0,hl0⟩:=h
  exact Kd.R_types ho hb ht
theorem IsS68.own_ne {w0 W:World} {g:Nat} {f0:List Int} {f1:Int} {f2:Int} {α:Type} {d:Kd α} {e:Nat} {base:Nat} {ok:Nat→Prop} {v:Value} {xs:List α} (h:IsS68 w0 W g f0 f1 f2) (ho:d.R e W base ok v xs) (ht:e ≠ 68):some g ≠ v.ownBlock:=by
  obtain ⟨A0,c0,hb,hg,hr0,hl0⟩:=h
  exact Kd.R_ne ho hb ht
theorem IsS68.apartQ {w0 W:World} {g:Nat} {f0:List Int} {f1:Int} {f2:Int} {α:Type} {d:Kd α} {e:Nat} {base:Nat} {ok:Nat→Prop} {v:Value} {xs:List α} (h:IsS68 w0 W g f0 f1 f2) (ho:d.Q e W base ok v xs) (ht:∀ q,q ∈ e :: d.E→q ≠ 68):d.Q e W base (fun k=>ok k∧k ≠ g) v xs:=by
  obtain ⟨A0,c0,hb,hg,hr0,hl0⟩:=h
  exact Kd.Q_types ho hb ht
theorem IsS68.own_neQ {w0 W:World} {g:Nat} {f0:List Int} {f1:Int} {f2:Int} {α:Type} {d:Kd α} {e:Nat} {base:Nat} {ok:Nat→Prop} {v:Value} {xs:List α} (h:IsS68 w0 W g f0 f1 f2) (ho:d.Q e W base ok v xs) (ht:e ≠ 68):some g ≠ v.ownBlock:=by
  obtain ⟨A0,c0,hb,hg,hr0,hl0⟩:=h
  exact Kd.Q_ne ho hb ht
theorem IsS68.apartB {w0 W:World} {g:Nat} {f0:List Int} {f1:Int} {f2:Int} {d:Kd Int} {e:Nat} {base:Nat} {ok:Nat→Prop} {v:Value} {xs:List Int} (h:IsS68 w0 W g f0 f1 f2) (ho:Kd.B d e W base ok v xs) (ht:∀ q,q ∈ e :: d.E→q ≠ 68):Kd.B d e W base (fun k=>ok k∧k ≠ g) v xs:=by
  obtain ⟨A0,c0,hb,hg,hr0,hl0⟩:=h
  exact Kd.B_types ho hb ht
theorem IsS68.own_neB {w0 W:World} {g:Nat} {f0:List Int} {f1:Int} {f2:Int} {d:Kd Int} {e:Nat} {base:Nat} {ok:Nat→Prop} {v:Value} {xs:List Int} (h:IsS68 w0 W g f0 f1 f2) (ho:Kd.B d e W base ok v xs) (ht:e ≠ 68):some g ≠ v.ownBlock:=by
  obtain ⟨A0,c0,hb,hg,hr0,hl0⟩:=h
  exact Kd.B_ne ho hb ht
theorem IsS68.apartS {w0 W:World} {g:Nat} {f0:List Int} {f1:Int} {f2:Int} {α:Type} {d:Kd α} {e:Nat} {base:Nat} {ok:Nat→Prop} {v:Value} {xs:List α} (h:IsS68 w0 W g f0 f1 f2) (ho:d.S e W base ok v xs) (ht:∀ q,q ∈ e :: d.E→q ≠ 68):d.S e W base (fun k=>ok k∧k ≠ g) v xs:=by
  obtain ⟨A0,c0,hb,hg,hr0,hl0⟩:=h
  exact Kd.S_types ho hb ht
theorem IsS68.own_neS {w0 W:World} {g:Nat} {f0:List Int} {f1:Int} {f2:Int} {α:Type} {d:Kd α} {e:Nat} {base:Nat} {ok:Nat→Prop} {v:Value} {xs:List α} (h:IsS68 w0 W g f0 f1 f2) (ho:d.S e W base ok v xs) (ht:e ≠ 68):some g ≠ v.ownBlock:=by
  obtain ⟨A0,c0,hb,hg,hr0,hl0⟩:=h
  exact Kd.S_ne ho hb ht
theorem IsS68.lt {w0 W:World} {g:Nat} {f0:List Int} {f1:Int} {f2:Int} (h:IsS68 w0 W g f0 f1 f2):g < W.heap.size:=by
  obtain ⟨A0,c0,hb,hg,hr0,hl0⟩:=h
  exact blk_lt hb
theorem IsS68.ge {w0 W:World} {g:Nat} {f0:List Int} {f1:Int} {f2:Int} (h:IsS68 w0 W g f0 f1 f2):w0.heap.size≤g:=by
  obtain ⟨A0,c0,hb,hg,hr0,hl0⟩:=h
  exact hg
theorem IsS68.ne_blk {w0 W:World} {g:Nat} {f0:List Int} {f1:Int} {f2:Int} {a:Nat} {cs:Array Value} {t:TypeId} {fr:Nat × Nat} (h:IsS68 w0 W g f0 f1 f2) (hb2:W.heap[a]? = some (.cells cs t fr)) (ht:t ≠ 68):g ≠ a:=by
  obtain ⟨A0,c0,hb,hg,hr0,hl0⟩:=h
  rintro rfl
  rw [hb] at hb2
  injection hb2 with hb2
  injection hb2 with _ ht2
  exact ht ht2.symm
theorem IsS68.far {w0 W:World} {g:Nat} {f0:List Int} {f1:Int} {f2:Int} {p:Addr} (h:IsS68 w0 W g f0 f1 f2) (hne:g ≠ p.block) (u:Value):IsS68 w0 (W.setCell p u) g f0 f1 f2:=by
  obtain ⟨A0,c0,hb,hg,hr0,hl0⟩:=h
  exact ⟨A0,c0,blk_far hb hne u,hg,hr0,hl0⟩
theorem cellS68_0 {W:World} {g:Nat} {A0:Option Addr} {c0:Nat} {f0:List Int} {f1:Int} {f2:Int} (h:W.heap[g]? = some (.cells #[.slice A0 f0.length c0,.int .i64 f1,.int .u64 f2] 68 (0,0))):W.cell? ⟨g,0,none⟩=some (.slice A0 f0.length c0):=(kc h 0).trans rfl
theorem cellS68_1 {W:World} {g:Nat} {A0:Option Addr} {c0:Nat} {f0:List Int} {f1:Int} {f2:Int} (h:W.heap[g]? = some (.cells #[.slice A0 f0.length c0,.int .i64 f1,.int .u64 f2] 68 (0,0))):W.cell? ⟨g,1,none⟩=some (.int .i64 f1):=(kc h 1).trans rfl
theorem IsS68.cell_1 {w0 W:World} {g:Nat} {f0:List Int} {f1:Int} {f2:Int} (h:IsS68 w0 W g f0 f1 f2):W.cell? ⟨g,1,none⟩=some (.int .i64 f1):=by
  obtain ⟨A0,c0,hb,hg,hr0,hl0⟩:=h
  exact cellS68_1 hb
theorem IsS68.set_1 {w0 W:World} {g:Nat} {f0:List Int} {f1:Int} {f2:Int} (h:IsS68 w0 W g f0 f1 f2) (x:Int):IsS68 w0 (W.setCell ⟨g,1,none⟩ (.int .i64 x)) g f0 x f2:=by
  obtain ⟨A0,c0,hb,hg,hr0,hl0⟩:=h
  exact ⟨A0,c0,by simpa using blk_set hb 1 (.int .i64 x),hg,hr0,hl0⟩
theorem cellS68_2 {W:World} {g:Nat} {A0:Option Addr} {c0:Nat} {f0:List Int} {f1:Int} {f2:Int} (h:W.heap[g]? = some (.cells #[.slice A0 f0.length c0,.int .i64 f1,.int .u64 f2] 68 (0,0))):W.cell? ⟨g,2,none⟩=some (.int .u64 f2):=(kc h 2).trans rfl
theorem IsS68.cell_2 {w0 W:World} {g:Nat} {f0:List Int} {f1:Int} {f2:Int} (h:IsS68 w0 W g f0 f1 f2):W.cell? ⟨g,2,none⟩=some (.int .u64 f2):=by
  obtain ⟨A0,c0,hb,hg,hr0,hl0⟩:=h
  exact cellS68_2 hb
theorem IsS68.set_2 {w0 W:World} {g:Nat} {f0:List Int} {f1:Int} {f2:Int} (h:IsS68 w0 W g f0 f1 f2) (x:Int):IsS68 w0 (W.setCell ⟨g,2,none⟩ (.int .u64 x)) g f0 f1 x:=by
  obtain ⟨A0,c0,hb,hg,hr0,hl0⟩:=h
  exact ⟨A0,c0,by simpa using blk_set hb 2 (.int .u64 x),hg,hr0,hl0⟩
theorem IsS68.new (w0 W:World) (A0:Option Addr) (c0:Nat) (f0:List Int) (f1:Int) (f2:Int) (hB:Below w0.heap.size w0 W) (hr0:Kd.C (Kd.int .u8) w0 A0 f0.length f0) (hl0:f0.length≤c0):IsS68 w0 (W.alloc (.cells #[.slice A0 f0.length c0,.int .i64 f1,.int .u64 f2] 68)) W.heap.size f0 f1 f2:=⟨A0,c0,by simpa using heap_alloc_new W _,hB.size,hr0,hl0⟩
/-! ### spec_l1Cur_next: function 93 -/
def spec_l1Cur_next.f (s0_0:List Int) (s0_1:Int) (s0_2:Int):Option (Int × Int × Int):=if s0_1 < (s0_0.length:Int) then (if 0≤s0_1 then (if (wrap64 (s0_1 + 1))≤(s0_0.length:Int) then (some (wrap64 (rd s0_0 s0_1),wrap64 (s0_1 + 1),IntKind.u64.wrap ((IntKind.u64.wrap ((IntKind.u64.wrap (s0_2 * 6364136223846793005)) + (IntKind.u64.wrap (wrap64 (rd s0_0 s0_1))))) + 1442695040888963407))) else (some (wrap64 (Go.bits .and .u64 ((IntKind.u64.wrap ((IntKind.u64.wrap ((IntKind.u64.wrap (s0_2 * 6364136223846793005)) + (IntKind.u64.wrap (wrap64 (rd s0_0 s0_1))))) + 1442695040888963407)) / 1099511627776) 255),wrap64 (s0_1 + 1),IntKind.u64.wrap ((IntKind.u64.wrap ((IntKind.u64.wrap (s0_2 * 6364136223846793005)) + (IntKind.u64.wrap (wrap64 (rd s0_0 s0_1))))) + 1442695040888963407)))) else (none)) else (if (wrap64 (s0_1 + 1))≤(s0_0.length:Int) then (some (0,wrap64 (s0_1 + 1),IntKind.u64.wrap ((IntKind.u64.wrap (IntKind.u64.wrap (s0_2 * 6364136223846793005))) + 1442695040888963407))) else (some (wrap64 (Go.bits .and .u64 ((IntKind.u64.wrap ((IntKind.u64.wrap (IntKind.u64.wrap (s0_2 * 6364136223846793005))) + 1442695040888963407)) / 1099511627776) 255),wrap64 (s0_1 + 1),IntKind.u64.wrap ((IntKind.u64.wrap (IntKind.u64.wrap (s0_2 * 6364136223846793005))) + 1442695040888963407))))
set_option maxHeartbeats 8000000 in
set_option maxRecDepth 100000 in
theorem spec_l1Cur_next.calls (g:Nat) (s0_0:List Int) (s0_1:Int) (s0_2:Int) (r1:Int) (r2:Int) (r3:Int) (w0 w:World) (hI:IsS68 w0 w g s0_0 s0_1 s0_2) (hB:Below w0.heap.size w0 w) (h:spec_l1Cur_next.f s0_0 s0_1 s0_2=some (r1,r2,r3)) :
    Calls Tryd.prog 93 #[.pointer (some ⟨g,0,none⟩)] w fun e w'=>e = .returned (.int .i64 r1)∧IsS68 w0 w' g s0_0 r2 r3∧Below w0.heap.size w0 w'∧KeepBut w w' g none:=by
 have HI0:=AsZ.mk hI
 have HK:=AsZ.mk (KeepBut.refl w g none)
 have HL:=AsZ.mk hB.size
 clear hI
 have HW0:=AsZ.mk hB.size
 have HB:=AsZ.mk hB
 clear hB
 have H:(if s0_1 < (s0_0.length:Int) then (if 0≤s0_1 then (if (wrap64 (s0_1 + 1))≤(s0_0.length:Int) then (some (wrap64 (rd s0_0 s0_1),wrap64 (s0_1 + 1),IntKind.u64.wrap ((IntKind.u64.wrap ((IntKind.u64.wrap (s0_2 * 6364136223846793005)) + (IntKind.u64.wrap (wrap64 (rd s0_0 s0_1))))) + 1442695040888963407))) else (some (wrap64 (Go.bits .and .u64 ((IntKind.u64.wrap ((IntKind.u64.wrap ((IntKind.u64.wrap (s0_2 * 6364136223846793005)) + (IntKind.u64.wrap (wrap64 (rd s0_0 s0_1))))) + 1442695040888963407)) / 1099511627776) 255),wrap64 (s0_1 + 1),IntKind.u64.wrap ((IntKind.u64.wrap ((IntKind.u64.wrap (s0_2 * 6364136223846793005)) + (IntKind.u64.wrap (wrap64 (rd s0_0 s0_1))))) + 1442695040888963407)))) else (none)) else (if (wrap64 (s0_1 + 1))≤(s0_0.length:Int) then (some (0,wrap64 (s0_1 + 1),IntKind.u64.wrap ((IntKind.u64.wrap (IntKind.u64.wrap (s0_2 * 6364136223846793005))) + 1442695040888963407))) else (some (wrap64 (Go.bits .and .u64 ((IntKind.u64.wrap ((IntKind.u64.wrap (IntKind.u64.wrap (s0_2 * 6364136223846793005))) + 1442695040888963407)) / 1099511627776) 255),wrap64 (s0_1 + 1),IntKind.u64.wrap ((IntKind.u64.wrap (IntKind.u64.wrap (s0_2 * 6364136223846793005))) + 1442695040888963407)))))=some (r1,r2,r3):=h
 clear h
 by_cases c2:s0_1 < (s0_0.length:Int)
 rotate_left
 · rw [if_neg c2] at H
   have c2b0:decide (s0_1 < (s0_0.length:Int))=false:=decide_eq_false c2
   clear c2
   by_cases c7:(wrap64 (s0_1 + 1))≤(s0_0.length:Int)
   · rw [if_pos c7] at H
     have c7b0:decide ((wrap64 (s0_1 + 1))≤(s0_0.length:Int))=true:=zE c7
     clear c7
     simp only [Option.some.injEq,Prod.mk.injEq] at H
     obtain ⟨rfl,rfl,rfl⟩:=H
     obtain ⟨ASz8_0,cSz8_0,HGz8,hgz8,HSz8_0,HSCz8_0⟩:=HI0.out
     have hcz8_0:=cellS68_0 HGz8
     have hcz8_1:=cellS68_1 HGz8
     have hcz8_2:=cellS68_2 HGz8
     have hfz8_1:=kf HGz8 1
     have hfz8_2:=kf HGz8 2
     clear HGz8 hgz8
     go_enter Tryd.func93,Tryd.ntmps93
     go_wp2
     repeat (go_quiet (fail);try go_wp2)
     go_ret
     exact ⟨re,st68 HI0,bel,kB HK⟩
   rw [if_neg c7] at H
   have c7b0:decide ((wrap64 (s0_1 + 1))≤(s0_0.length:Int))=false:=decide_eq_false c7
   clear c7
   simp only [Option.some.injEq,Prod.mk.injEq] at H
   obtain ⟨rfl,rfl,rfl⟩:=H
   obtain ⟨ASz9_0,cSz9_0,HGz9,hgz9,HSz9_0,HSCz9_0⟩:=HI0.out
   have hcz9_0:=cellS68_0 HGz9
   have hcz9_1:=cellS68_1 HGz9
   have hcz9_2:=cellS68_2 HGz9
   have hfz9_1:=kf HGz9 1
   have hfz9_2:=kf HGz9 2
   clear HGz9 hgz9
   go_enter Tryd.func93,Tryd.ntmps93
   go_wp2
   repeat (go_quiet (fail);try go_wp2)
   go_ret
   exact ⟨re,st68 HI0,bel,kB HK⟩
 rw [if_pos c2] at H
 have c2b0:decide (s0_1 < (s0_0.length:Int))=true:=zE c2
 clear c2
 by_cases c3:0≤s0_1
 rotate_left
 · rw [if_neg c3] at H
   exact absurd H (by simp)
 rw [if_pos c3] at H
 have c3b0:decide (0≤s0_1)=true:=zE c3
 clear c3
 by_cases c4:(wrap64 (s0_1 + 1))≤(s0_0.length:Int)
 · rw [if_pos c4] at H
   have c4b0:decide ((wrap64 (s0_1 + 1))≤(s0_0.length:Int))=true:=zE c4
   clear c4
   simp only [Option.some.injEq,Prod.mk.injEq] at H
   obtain ⟨rfl,rfl,rfl⟩:=H
   obtain ⟨ASz5_0,cSz5_0,HGz5,hgz5,HSz5_0,HSCz5_0⟩:=HI0.out
   have hcz5_0:=cellS68_0 HGz5
   have hcz5_1:=cellS68_1 HGz5
   have hcz5_2:=cellS68_2 HGz5
   have hfz5_1:=kf HGz5 1
   have hfz5_2:=kf HGz5 2
   clear HGz5 hgz5
   have p337:0≤(s0_1:Int):=dd
   have q337:s0_1 < (s0_0.length:Int):=dd
   obtain ⟨ad337,e337,hx337_0⟩:=Kd.at_int HSz5_0 s0_1 p337 q337
   cases e337
   replace hx337_0:=pcb HB.out hx337_0
   replace p337:=eq_true p337
   replace q337:=eq_true q337
   go_enter Tryd.func93,Tryd.ntmps93
   go_wp2
   repeat (go_quiet (fail);try go_wp2)
   go_ret
   exact ⟨re,st68 HI0,bel,kB HK⟩
 rw [if_neg c4] at H
 have c4b0:decide ((wrap64 (s0_1 + 1))≤(s0_0.length:Int))=false:=decide_eq_false c4
 clear c4
 simp only [Option.some.injEq,Prod.mk.injEq] at H
 obtain ⟨rfl,rfl,rfl⟩:=H
 obtain ⟨ASz6_0,cSz6_0,HGz6,hgz6,HSz6_0,HSCz6_0⟩:=HI0.out
 have hcz6_0:=cellS68_0 HGz6
 have hcz6_1:=cellS68_1 HGz6
 have hcz6_2:=cellS68_2 HGz6
 have hfz6_1:=kf HGz6 1
 have hfz6_2:=kf HGz6 2
 clear HGz6 hgz6
 have p337:0≤(s0_1:Int):=dd
 have q337:s0_1 < (s0_0.length:Int):=dd
 obtain ⟨ad337,e337,hx337_0⟩:=Kd.at_int HSz6_0 s0_1 p337 q337
 cases e337
 replace hx337_0:=pcb HB.out hx337_0
 replace p337:=eq_true p337
 replace q337:=eq_true q337
 go_enter Tryd.func93,Tryd.ntmps93
 go_wp2
 repeat (go_quiet (fail);try go_wp2)
 go_ret
 exact ⟨re,st68 HI0,bel,kB HK⟩
/-! ### spec_l1Cur_pick: function 75 -/
def spec_l1Cur_pick.f (s0_0:List Int) (s0_1:Int) (s0_2:Int) (a1:Int):Option (Int × Int × Int):=if a1≤1 then (some (0,s0_1,s0_2)) else ((spec_l1Cur_next.f s0_0 s0_1 s0_2).bind fun bt338=>(if a1 > 200 then ((spec_l1Cur_next.f s0_0 bt338.2.1 bt338.2.2).bind fun bt341=>(if a1=0 then (none) else (some (Int.tmod (wrap64 ((wrap64 (bt338.1 * 256)) + bt341.1)) a1,bt341.2.1,bt341.2.2)))) else (if a1=0 then (none) else (some (Int.tmod bt338.1 a1,bt338.2.1,bt338.2.2)))))
set_option maxHeartbeats 8000000 in
set_option maxRecDepth 100000 in
theorem spec_l1Cur_pick.calls (g:Nat) (s0_0:List Int) (s0_1:Int) (s0_2:Int) (a1:Int) (r1:Int) (r2:Int) (r3:Int) (w0 w:World) (hI:IsS68 w0 w g s0_0 s0_1 s0_2) (hB:Below w0.heap.size w0 w) (h:spec_l1Cur_pick.f s0_0 s0_1 s0_2 a1=some (r1,r2,r3)) :
    Calls Tryd.prog 75 #[.pointer (some ⟨g,0,none⟩),.int .i64 a1] w fun e w'=>e = .returned (.int .i64 r1)∧IsS68 w0 w' g s0_0 r2 r3∧Below w0.heap.size w0 w'∧KeepBut w w' g none:=by
 have HI0:=AsZ.mk hI
 have HK:=AsZ.mk (KeepBut.refl w g none)
 have HL:=AsZ.mk hB.size
 clear hI
 have HW0:=AsZ.mk hB.size
 have HB:=AsZ.mk hB
 clear hB
 have H:(if a1≤1 then (some (0,s0_1,s0_2)) else ((spec_l1Cur_next.f s0_0 s0_1 s0_2).bind fun bt338=>(if a1 > 200 then ((spec_l1Cur_next.f s0_0 bt338.2.1 bt338.2.2).bind fun bt341=>(if a1=0 then (none) else (some (Int.tmod (wrap64 ((wrap64 (bt338.1 * 256)) + bt341.1)) a1,bt341.2.1,bt341.2.2)))) else (if a1=0 then (none) else (some (Int.tmod bt338.1 a1,bt338.2.1,bt338.2.2))))))=some (r1,r2,r3):=h
 clear h
 by_cases c3:a1≤1
 · rw [if_pos c3] at H
   have c3b0:decide (a1≤1)=true:=zE c3
   clear c3
   simp only [Option.some.injEq,Prod.mk.injEq] at H
   obtain ⟨rfl,rfl,rfl⟩:=H
   go_enter Tryd.func75,Tryd.ntmps75
   go_wp2
   go_ret
   exact ⟨re,st68 HI0,bel,kB HK⟩
 rw [if_neg c3] at H
 have c3b0:decide (a1≤1)=false:=decide_eq_false c3
 clear c3
 replace H:=bs H
 obtain ⟨⟨t338,t339,t340⟩,A4,H⟩:=H
 by_cases c5:a1 > 200
 rotate_left
 · rw [if_neg c5] at H
   have c5b0:decide (200 < a1)=false:=decide_eq_false c5
   clear c5
   by_cases c10:a1=0
   · rw [if_pos c10] at H
     exact absurd H (by simp)
   rw [if_neg c10] at H
   have c10b0:(a1 == 0)=false:=beq_eq_false_iff_ne.mpr c10
   have c10b1:(a1 != 0)=true:=bne_iff_ne.mpr c10
   simp only [Option.some.injEq,Prod.mk.injEq] at H
   obtain ⟨rfl,rfl,rfl⟩:=H
   go_enter Tryd.func75,Tryd.ntmps75
   go_wp2_with (first|((with_reducible refine gcl (f:=93) rfl ?_);refine goesL_ (some 9) rfl rfl Tryd.func93 (by kernel_rfl) rfl #[.pointer (some ⟨g,0,none⟩)] rfl gl ?_;(with_reducible refine (spec_l1Cur_next.calls g s0_0 s0_1 s0_2 t338 t339 t340 w0 _ ?side1 ?side2 A4.out).mono ?_);(case side1=>exact st68 HI0);(case side2=>exact bel);rintro e w11 ⟨rfl,hi,hb,hk⟩;refine ⟨_,rfl,?_⟩;replace HK:=AsZ.mk (KeepBut.trans (kB HK) hk (.inl rfl));replace HB:=AsZ.mk (hb);replace HI0:=AsZ.mk (hi);(try clear hb);(try clear hb2);(try clear hk);(try clear hi)))
   go_ret
   exact ⟨re,st68 HI0,bel,kB HK⟩
 rw [if_pos c5] at H
 have c5b0:decide (200 < a1)=true:=zE c5
 clear c5
 replace H:=bs H
 obtain ⟨⟨t341,t342,t343⟩,A6,H⟩:=H
 by_cases c7:a1=0
 · rw [if_pos c7] at H
   exact absurd H (by simp)
 rw [if_neg c7] at H
 have c7b0:(a1 == 0)=false:=beq_eq_false_iff_ne.mpr c7
 have c7b1:(a1 != 0)=true:=bne_iff_ne.mpr c7
 simp only [Option.some.injEq,Prod.mk.injEq] at H
 obtain ⟨rfl,rfl,rfl⟩:=H
 go_enter Tryd.func75,Tryd.ntmps75
 go_wp2_with (first|((with_reducible refine gcl (f:=93) rfl ?_);refine goesL_ (some 9) rfl rfl Tryd.func93 (by kernel_rfl) rfl #[.pointer (some ⟨g,0,none⟩)] rfl gl ?_;(with_reducible refine (spec_l1Cur_next.calls g s0_0 s0_1 s0_2 t338 t339 t340 w0 _ ?side1 ?side2 A4.out).mono ?_);(case side1=>exact st68 HI0);(case side2=>exact bel);rintro e w8 ⟨rfl,hi,hb,hk⟩;refine ⟨_,rfl,?_⟩;replace HK:=AsZ.mk (KeepBut.trans (kB HK) hk (.inl rfl));replace HB:=AsZ.mk (hb);replace HI0:=AsZ.mk (hi);(try clear hb);(try clear hb2);(try clear hk);(try clear hi))|((with_reducible refine gcl (f:=93) rfl ?_);refine goesL_ (some 15) rfl rfl Tryd.func93 (by kernel_rfl) rfl #[.pointer (some ⟨g,0,none⟩)] rfl gl ?_;(with_reducible refine (spec_l1Cur_next.calls g s0_0 t339 t340 t341 t342 t343 w0 _ ?side1 ?side2 A6.out).mono ?_);(case side1=>exact st68 HI0);(case side2=>exact bel);rintro e w9 ⟨rfl,hi,hb,hk⟩;refine ⟨_,rfl,?_⟩;replace HK:=AsZ.mk (KeepBut.trans (kB HK) hk (.inl rfl));replace HB:=AsZ.mk (hb);replace HI0:=AsZ.mk (hi);(try clear hb);(try clear hb2);(try clear hk);(try clear hi)))
 go_ret
 exact ⟨re,st68 HI0,bel,kB HK⟩
/-! ### spec_l1Cur_one: function 76 -/
def spec_l1Cur_one.f (s0_0:List Int) (s0_1:Int) (s0_2:Int) (a1:Int):Option (Bool × Int × Int):=(spec_l1Cur_pick.f s0_0 s0_1 s0_2 a1).bind fun bt344=>(some ((bt344.1 == 0),bt344.2.1,bt344.2.2))
set_option maxHeartbeats 8000000 in
set_option maxRecDepth 100000 in
theorem spec_l1Cur_one.calls (g:Nat) (s0_0:List Int) (s0_1:Int) (s0_2:Int) (a1:Int) (r1:Bool) (r2:Int) (r3:Int) (w0 w:World) (hI:IsS68 w0 w g s0_0 s0_1 s0_2) (hB:Below w0.heap.size w0 w) (h:spec_l1Cur_one.f s0_0 s0_1 s0_2 a1=some (r1,r2,r3)) :
    Calls Tryd.prog 76 #[.pointer (some ⟨g,0,none⟩),.int .i64 a1] w fun e w'=>e = .returned (.bool r1)∧IsS68 w0 w' g s0_0 r2 r3∧Below w0.heap.size w0 w'∧KeepBut w w' g none:=by
 have HI0:=AsZ.mk hI
 have HK:=AsZ.mk (KeepBut.refl w g none)
 have HL:=AsZ.mk hB.size
 clear hI
 have HW0:=AsZ.mk hB.size
 have HB:=AsZ.mk hB
 clear hB
 have H:((spec_l1Cur_pick.f s0_0 s0_1 s0_2 a1).bind fun bt344=>(some ((bt344.1 == 0),bt344.2.1,bt344.2.2)))=some (r1,r2,r3):=h
 clear h
 replace H:=bs H
 obtain ⟨⟨t344,t345,t346⟩,A3,H⟩:=H
 simp only [Option.some.injEq,Prod.mk.injEq] at H
 obtain ⟨rfl,rfl,rfl⟩:=H
 go_enter Tryd.func76,Tryd.ntmps76
 go_wp2_with (first|((with_reducible refine gcl (f:=75) rfl ?_);refine goesL_ (some 7) rfl rfl Tryd.func75 (by kernel_rfl) rfl #[.pointer (some ⟨g,0,none⟩),.int .i64 a1] rfl gl ?_;(with_reducible refine (spec_l1Cur_pick.calls g s0_0 s0_1 s0_2 a1 t344 t345 t346 w0 _ ?side1 ?side2 A3.out).mono ?_);(case side1=>exact st68 HI0);(case side2=>exact bel);rintro e w4 ⟨rfl,hi,hb,hk⟩;refine ⟨_,rfl,?_⟩;replace HK:=AsZ.mk (KeepBut.trans (kB HK) hk (.inl rfl));replace HB:=AsZ.mk (hb);replace HI0:=AsZ.mk (hi);(try clear hb);(try clear hb2);(try clear hk);(try clear hi)))
 go_ret
 exact ⟨re,st68 HI0,bel,kB HK⟩
/-! ### spec_l1Cur_of: function 94 -/
def spec_l1Cur_of.f (s0_0:List Int) (s0_1:Int) (s0_2:Int) (l1:List ByteArray):Option (ByteArray × Int × Int):=(spec_l1Cur_pick.f s0_0 s0_1 s0_2 (l1.length:Int)).bind fun bt347=>(if 0≤bt347.1 then (if bt347.1 < (l1.length:Int) then (some (rdOf ByteArray.empty l1 bt347.1,bt347.2.1,bt347.2.2)) else (none)) else (none))
set_option maxHeartbeats 8000000 in
set_option maxRecDepth 100000 in
theorem spec_l1Cur_of.calls (g:Nat) (s0_0:List Int) (s0_1:Int) (s0_2:Int) (A1:Option Addr) (c1:Nat) (l1:List ByteArray) (r1:ByteArray) (r2:Int) (r3:Int) (w0 w:World) (hI:IsS68 w0 w g s0_0 s0_1 s0_2) (hB:Below w0.heap.size w0 w) (hr1:Kd.C Kd.string w A1 l1.length l1) (hc1:l1.length≤c1) (hf1:∀ ad,A1=some ad→0 < l1.length→ad.block ≠ g) (h:spec_l1Cur_of.f s0_0 s0_1 s0_2 l1=some (r1,r2,r3)) :
    Calls Tryd.prog 94 #[.pointer (some ⟨g,0,none⟩),.slice A1 l1.length c1] w fun e w'=>e = .returned (.string r1)∧IsS68 w0 w' g s0_0 r2 r3∧Below w0.heap.size w0 w'∧KeepBut w w' g none:=by
 have HR1:=AsZ.mk hr1
 have HC1:=AsZ.mk hc1
 clear hr1 hc1
 have HI0:=AsZ.mk hI
 have HK:=AsZ.mk (KeepBut.refl w g none)
 have HL:=AsZ.mk hB.size
 clear hI
 have HW0:=AsZ.mk hB.size
 have HB:=AsZ.mk hB
 clear hB
 have H:((spec_l1Cur_pick.f s0_0 s0_1 s0_2 (l1.length:Int)).bind fun bt347=>(if 0≤bt347.1 then (if bt347.1 < (l1.length:Int) then (some (rdOf ByteArray.empty l1 bt347.1,bt347.2.1,bt347.2.2)) else (none)) else (none)))=some (r1,r2,r3):=h
 clear h
 replace H:=bs H
 obtain ⟨⟨t347,t348,t349⟩,A3,H⟩:=H
 by_cases c4:0≤t347
 rotate_left
 · rw [if_neg c4] at H
   exact absurd H (by simp)
 rw [if_pos c4] at H
 have c4b0:decide (0≤t347)=true:=zE c4
 clear c4
 by_cases c5:t347 < (l1.length:Int)
 rotate_left
 · rw [if_neg c5] at H
   exact absurd H (by simp)
 rw [if_pos c5] at H
 have c5b0:decide (t347 < (l1.length:Int))=true:=zE c5
 clear c5
 simp only [Option.some.injEq,Prod.mk.injEq] at H
 obtain ⟨rfl,rfl,rfl⟩:=H
 go_enter Tryd.func94,Tryd.ntmps94
 go_wp2_with (first|((with_reducible refine gcl (f:=75) rfl ?_);refine goesL_ (some 9) rfl rfl Tryd.func75 (by kernel_rfl) rfl #[.pointer (some ⟨g,0,none⟩),.int .i64 (l1.length:Int)] rfl gl ?_;(with_reducible refine (spec_l1Cur_pick.calls g s0_0 s0_1 s0_2 (l1.length:Int) t347 t348 t349 w0 _ ?side1 ?side2 A3.out).mono ?_);(case side1=>exact st68 HI0);(case side2=>exact bel);rintro e w6 ⟨rfl,hi,hb,hk⟩;refine ⟨_,rfl,?_⟩;replace HK:=AsZ.mk (KeepBut.trans (kB HK) hk (.inl rfl));replace HB:=AsZ.mk (hb);replace HI0:=AsZ.mk (hi);(try clear hb);(try clear hb2);(try clear hk);(try clear hi);have p350:0≤(t347:Int):=dd;have q350:t347 < (l1.length:Int):=dd;obtain ⟨ad350,e350,hx350_0⟩:=Kd.at_string HR1.out t347 p350 q350;cases e350;replace hx350_0:=keep_cell HK.out hx350_0 (by first|(rw [add_block];exact hf1 _ rfl (by omega))|exact hf1 _ rfl (by omega)|exact hf1 ad350 rfl (by omega));replace p350:=eq_true p350;replace q350:=eq_true q350))
 go_ret
 exact ⟨re,st68 HI0,bel,kB HK⟩
/-! ### spec_l1Cur_key: function 77 -/
def spec_l1Cur_key.f (s0_0:List Int) (s0_1:Int) (s0_2:Int):Option (ByteArray × Int × Int):=(spec_l1Cur_one.f s0_0 s0_1 s0_2 60).bind fun bt351=>(if bt351.1=true then ((spec_l1Cur_of.f s0_0 bt351.2.1 bt351.2.2 (([(⟨#[]⟩:ByteArray),(⟨#[49,50,51,52,53,54,55,56,57,48,49,50,51,52,53,54,55]⟩:ByteArray)]:List ByteArray))).bind fun bt357=>(some (bt357.1,bt357.2.1,bt357.2.2))) else ((spec_l1Cur_of.f s0_0 bt351.2.1 bt351.2.2 (([(⟨#[97]⟩:ByteArray),(⟨#[98]⟩:ByteArray),(⟨#[98,97]⟩:ByteArray),(⟨#[99]⟩:ByteArray),(⟨#[99,97,114]⟩:ByteArray),(⟨#[100]⟩:ByteArray),(⟨#[101]⟩:ByteArray)]:List ByteArray))).bind fun bt363=>(some (bt363.1,bt363.2.1,bt363.2.2))))
set_option maxHeartbeats 8000000 in
set_option maxRecDepth 100000 in
theorem spec_l1Cur_key.calls (g:Nat) (s0_0:List Int) (s0_1:Int) (s0_2:Int) (r1:ByteArray) (r2:Int) (r3:Int) (w0 w:World) (hI:IsS68 w0 w g s0_0 s0_1 s0_2) (hB:Below w0.heap.size w0 w) (h:spec_l1Cur_key.f s0_0 s0_1 s0_2=some (r1,r2,r3)) :
    Calls Tryd.prog 77 #[.pointer (some ⟨g,0,none⟩)] w fun e w'=>e = .returned (.string r1)∧IsS68 w0 w' g s0_0 r2 r3∧Below w0.heap.size w0 w'∧KeepBut w w' g none:=by
 have HI0:=AsZ.mk hI
 have HK:=AsZ.mk (KeepBut.refl w g none)
 have HL:=AsZ.mk hB.size
 clear hI
 have HW0:=AsZ.mk hB.size
 have HB:=AsZ.mk hB
 clear hB
 have H:((spec_l1Cur_one.f s0_0 s0_1 s0_2 60).bind fun bt351=>(if bt351.1=true then ((spec_l1Cur_of.f s0_0 bt351.2.1 bt351.2.2 (([(⟨#[]⟩:ByteArray),(⟨#[49,50,51,52,53,54,55,56,57,48,49,50,51,52,53,54,55]⟩:ByteArray)]:List ByteArray))).bind fun bt357=>(some (bt357.1,bt357.2.1,bt357.2.2))) else ((spec_l1Cur_of.f s0_0 bt351.2.1 bt351.2.2 (([(⟨#[97]⟩:ByteArray),(⟨#[98]⟩:ByteArray),(⟨#[98,97]⟩:ByteArray),(⟨#[99]⟩:ByteArray),(⟨#[99,97,114]⟩:ByteArray),(⟨#[100]⟩:ByteArray),(⟨#[101]⟩:ByteArray)]:List ByteArray))).bind fun bt363=>(some (bt363.1,bt363.2.1,bt363.2.2)))))=some (r1,r2,r3):=h
 clear h
 replace H:=bs H
 obtain ⟨⟨t351,t352,t353⟩,A2,H⟩:=H
 by_cases c3:t351=true
 · subst c3
   replace H:=iP H
   obtain ⟨y354,hy354⟩:∃ y_:List ByteArray,y_=(([(⟨#[]⟩:ByteArray),(⟨#[49,50,51,52,53,54,55,56,57,48,49,50,51,52,53,54,55]⟩:ByteArray)]:List ByteArray)):=⟨_,rfl⟩
   replace H:((spec_l1Cur_of.f s0_0 t352 t353 y354).bind fun bt357=>(some (bt357.1,bt357.2.1,bt357.2.2)))=some (r1,r2,r3):=ry hy354 H
   have Ny354:=AsZ.mk hy354
   clear hy354
   replace H:=bs H
   obtain ⟨⟨t357,t358,t359⟩,A4,H⟩:=H
   simp only [Option.some.injEq,Prod.mk.injEq] at H
   obtain ⟨rfl,rfl,rfl⟩:=H
   go_enter Tryd.func77,Tryd.ntmps77
   go_wp2_with (first|((with_reducible refine gcl (f:=76) rfl ?_);refine goesL_ (some 4) rfl rfl Tryd.func76 (by kernel_rfl) rfl #[.pointer (some ⟨g,0,none⟩),.int .i64 60] rfl gl ?_;(with_reducible refine (spec_l1Cur_one.calls g s0_0 s0_1 s0_2 60 true t352 t353 w0 _ ?side1 ?side2 A2.out).mono ?_);(case side1=>exact st68 HI0);(case side2=>exact bel);rintro e w5 ⟨rfl,hi,hb,hk⟩;refine ⟨_,rfl,?_⟩;replace HK:=AsZ.mk (KeepBut.trans (kB HK) hk (.inl rfl));replace HB:=AsZ.mk (hb);replace HI0:=AsZ.mk (hi);(try clear hb);(try clear hb2);(try clear hk);(try clear hi))|((with_reducible refine gate_dst (N:=6) rfl ?_);refine Kd.R_lit Kd.string _ 9 ?hg (N:=6) ?hd (xs:=([(⟨#[]⟩:ByteArray),(⟨#[49,50,51,52,53,54,55,56,57,48,49,50,51,52,53,54,55]⟩:ByteArray)]:List ByteArray)) (inner:=[.string (⟨#[]⟩:ByteArray),.string (⟨#[49,50,51,52,53,54,55,56,57,48,49,50,51,52,53,54,55]⟩:ByteArray)]) (ok:=fun _=>True) (okp:=fun _=>True) ?hr ?hp (fun _ hk=>hk) trivial (Below.refl _ _) (Nat.le_refl _) (by simp) ?_;(case hd=>rfl);(case hg=>rfl);(case hr=>first|(go_simp;done)|(go_simp;rfl));(case hp=>exact (Reps.one (show Kd.M Kd.string _ _ _ (⟨#[]⟩:ByteArray) [.string (⟨#[]⟩:ByteArray)] from rfl) (Reps.one (show Kd.M Kd.string _ _ _ (⟨#[49,50,51,52,53,54,55,56,57,48,49,50,51,52,53,54,55]⟩:ByteArray) [.string (⟨#[49,50,51,52,53,54,55,56,57,48,49,50,51,52,53,54,55]⟩:ByteArray)] from rfl) (Reps.none _ _))));intro v355 w6 ho7 hb hg_ hnew_;clear hg_ hnew_;(first|rw [← Ny354.out] at ho7|(simp only [Int.reduceToNat] at ho7;rw [← Ny354.out] at ho7));have HO356:=AsZ.mk (Kd.R_lower ho7 (keep_size (w:=w) (g:=g) (row:=none) (kB HK)));replace HI0:=AsZ.mk (IsS68.below (st68 HI0) hb);replace HK:=AsZ.mk (KeepBut.trans (kB HK) (KeepBut.of_below hb g none) (.inl rfl));replace HB:=bp hb;clear hb ho7;obtain ⟨Ao8,co8,eo8⟩:=Kd.R_slice HO356.out;subst eo8)|((with_reducible refine gcl (f:=94) rfl ?_);refine goesL_ (some 7) rfl rfl Tryd.func94 (by kernel_rfl) rfl #[.pointer (some ⟨g,0,none⟩),.slice Ao8 y354.length co8] rfl gl ?_;(with_reducible refine (spec_l1Cur_of.calls g s0_0 t352 t353 _ _ y354 t357 t358 t359 w0 _ ?side1 ?side2 ?side3 ?side4 ?side5 A4.out).mono ?_);(case side1=>exact st68 HI0);(case side2=>exact bel);(case side3=>exact cC (Kd.R_reads' HO356.out).2.2);(case side4=>exact (Kd.R_reads' HO356.out).2.1);(case side5=>exact far_slice (IsS68.own_ne HI0.out HO356.out (by decide)));rintro e w9 ⟨rfl,hi,hb,hk⟩;refine ⟨_,rfl,?_⟩;replace HO356:=AsZ.mk (Kd.R_mono (Kd.R_keep (IsS68.apart (show IsS68 w0 _ g s0_0 t352 t353 from st68 HI0) (kR HO356) (by decide)) hk (fun _ h=>h.2)) (fun _ h=>h.1));replace HK:=AsZ.mk (KeepBut.trans (kB HK) hk (.inl rfl));replace HB:=AsZ.mk (hb);replace HI0:=AsZ.mk (hi);(try clear hb);(try clear hb2);(try clear hk);(try clear hi)))
   go_ret
   exact ⟨re,st68 HI0,bel,kB HK⟩
 replace c3:=Bool.eq_false_iff.mpr c3
 subst c3
 replace H:=iN H
 obtain ⟨y360,hy360⟩:∃ y_:List ByteArray,y_=(([(⟨#[97]⟩:ByteArray),(⟨#[98]⟩:ByteArray),(⟨#[98,97]⟩:ByteArray),(⟨#[99]⟩:ByteArray),(⟨#[99,97,114]⟩:ByteArray),(⟨#[100]⟩:ByteArray),(⟨#[101]⟩:ByteArray)]:List ByteArray)):=⟨_,rfl⟩
 replace H:((spec_l1Cur_of.f s0_0 t352 t353 y360).bind fun bt363=>(some (bt363.1,bt363.2.1,bt363.2.2)))=some (r1,r2,r3):=ry hy360 H
 have Ny360:=AsZ.mk hy360
 clear hy360
 replace H:=bs H
 obtain ⟨⟨t363,t364,t365⟩,A10,H⟩:=H
 simp only [Option.some.injEq,Prod.mk.injEq] at H
 obtain ⟨rfl,rfl,rfl⟩:=H
 go_enter Tryd.func77,Tryd.ntmps77
 go_wp2_with (first|((with_reducible refine gcl (f:=76) rfl ?_);refine goesL_ (some 4) rfl rfl Tryd.func76 (by kernel_rfl) rfl #[.pointer (some ⟨g,0,none⟩),.int .i64 60] rfl gl ?_;(with_reducible refine (spec_l1Cur_one.calls g s0_0 s0_1 s0_2 60 false t352 t353 w0 _ ?side1 ?side2 A2.out).mono ?_);(case side1=>exact st68 HI0);(case side2=>exact bel);rintro e w11 ⟨rfl,hi,hb,hk⟩;refine ⟨_,rfl,?_⟩;replace HK:=AsZ.mk (KeepBut.trans (kB HK) hk (.inl rfl));replace HB:=AsZ.mk (hb);replace HI0:=AsZ.mk (hi);(try clear hb);(try clear hb2);(try clear hk);(try clear hi))|((with_reducible refine gate_dst (N:=9) rfl ?_);refine Kd.R_lit Kd.string _ 9 ?hg (N:=9) ?hd (xs:=([(⟨#[97]⟩:ByteArray),(⟨#[98]⟩:ByteArray),(⟨#[98,97]⟩:ByteArray),(⟨#[99]⟩:ByteArray),(⟨#[99,97,114]⟩:ByteArray),(⟨#[100]⟩:ByteArray),(⟨#[101]⟩:ByteArray)]:List ByteArray)) (inner:=[.string (⟨#[97]⟩:ByteArray),.string (⟨#[98]⟩:ByteArray),.string (⟨#[98,97]⟩:ByteArray),.string (⟨#[99]⟩:ByteArray),.string (⟨#[99,97,114]⟩:ByteArray),.string (⟨#[100]⟩:ByteArray),.string (⟨#[101]⟩:ByteArray)]) (ok:=fun _=>True) (okp:=fun _=>True) ?hr ?hp (fun _ hk=>hk) trivial (Below.refl _ _) (Nat.le_refl _) (by simp) ?_;(case hd=>rfl);(case hg=>rfl);(case hr=>first|(go_simp;done)|(go_simp;rfl));(case hp=>exact (Reps.one (show Kd.M Kd.string _ _ _ (⟨#[97]⟩:ByteArray) [.string (⟨#[97]⟩:ByteArray)] from rfl) (Reps.one (show Kd.M Kd.string _ _ _ (⟨#[98]⟩:ByteArray) [.string (⟨#[98]⟩:ByteArray)] from rfl) (Reps.one (show Kd.M Kd.string _ _ _ (⟨#[98,97]⟩:ByteArray) [.string (⟨#[98,97]⟩:ByteArray)] from rfl) (Reps.one (show Kd.M Kd.string _ _ _ (⟨#[99]⟩:ByteArray) [.string (⟨#[99]⟩:ByteArray)] from rfl) (Reps.one (show Kd.M Kd.string _ _ _ (⟨#[99,97,114]⟩:ByteArray) [.string (⟨#[99,97,114]⟩:ByteArray)] from rfl) (Reps.one (show Kd.M Kd.string _ _ _ (⟨#[100]⟩:ByteArray) [.string (⟨#[100]⟩:ByteArray)] from rfl) (Reps.one (show Kd.M Kd.string _ _ _ (⟨#[101]⟩:ByteArray) [.string (⟨#[101]⟩:ByteArray)] from rfl) (Reps.none _ _)))))))));intro v361 w12 ho13 hb hg_ hnew_;clear hg_ hnew_;(first|rw [← Ny360.out] at ho13|(simp only [Int.reduceToNat] at ho13;rw [← Ny360.out] at ho13));have HO362:=AsZ.mk (Kd.R_lower ho13 (keep_size (w:=w) (g:=g) (row:=none) (kB HK)));replace HI0:=AsZ.mk (IsS68.below (st68 HI0) hb);replace HK:=AsZ.mk (KeepBut.trans (kB HK) (KeepBut.of_below hb g none) (.inl rfl));replace HB:=bp hb;clear hb ho13;obtain ⟨Ao14,co14,eo14⟩:=Kd.R_slice HO362.out;subst eo14)|((with_reducible refine gcl (f:=94) rfl ?_);refine goesL_ (some 10) rfl rfl Tryd.func94 (by kernel_rfl) rfl #[.pointer (some ⟨g,0,none⟩),.slice Ao14 y360.length co14] rfl gl ?_;(with_reducible refine (spec_l1Cur_of.calls g s0_0 t352 t353 _ _ y360 t363 t364 t365 w0 _ ?side1 ?side2 ?side3 ?side4 ?side5 A10.out).mono ?_);(case side1=>exact st68 HI0);(case side2=>exact bel);(case side3=>exact cC (Kd.R_reads' HO362.out).2.2);(case side4=>exact (Kd.R_reads' HO362.out).2.1);(case side5=>exact far_slice (IsS68.own_ne HI0.out HO362.out (by decide)));rintro e w15 ⟨rfl,hi,hb,hk⟩;refine ⟨_,rfl,?_⟩;replace HO362:=AsZ.mk (Kd.R_mono (Kd.R_keep (IsS68.apart (show IsS68 w0 _ g s0_0 t352 t353 from st68 HI0) (kR HO362) (by decide)) hk (fun _ h=>h.2)) (fun _ h=>h.1));replace HK:=AsZ.mk (KeepBut.trans (kB HK) hk (.inl rfl));replace HB:=AsZ.mk (hb);replace HI0:=AsZ.mk (hi);(try clear hb);(try clear hb2);(try clear hk);(try clear hi)))
 go_ret
 exact ⟨re,st68 HI0,bel,kB HK⟩
/-! ### spec_l1Cur_text: function 78 -/
def spec_l1Cur_text.l0:Nat→List Int→Int→Int→List Int→Int→Int→Option (ByteArray × Int × Int)
  |0,_,_,_,_,_,_=>none
  |k + 1,x5,x10,x11,x1000,x1001,x1002=>if x11 < x10 then ((spec_l1Cur_pick.f x1000 x1001 x1002 256).bind fun bt369=>(if 0≤x11 then (if x11 < (x5.length:Int) then (spec_l1Cur_text.l0 k (x5.set (x11:Int).toNat ((bt369.1) % 256)) x10 (wrap64 (x11 + 1)) x1000 bt369.2.1 bt369.2.2) else (none)) else (none))) else (some (strOfNums x5,x1001,x1002))
def spec_l1Cur_text.f (k:Nat) (s0_0:List Int) (s0_1:Int) (s0_2:Int) (a1:Int):Option (ByteArray × Int × Int):=if 0≤a1 then (if (a1:Int).toNat≤281474976710656 then ((some (List.replicate (a1:Int).toNat 0:List Int)).bind fun y366=>(spec_l1Cur_text.l0 k y366 (y366.length:Int) 0 s0_0 s0_1 s0_2)) else (none)) else (none)
theorem spec_l1Cur_text.mono_l:∀ k,(∀ y0 y1 y2 y3 y4 y5,LeO (spec_l1Cur_text.l0 k y0 y1 y2 y3 y4 y5) (spec_l1Cur_text.l0 (k + 1) y0 y1 y2 y3 y4 y5))
  |0=>fun _ _ _ _ _ _ r h=>by simp [spec_l1Cur_text.l0] at h
  |k + 1=>by
    have ih0:=spec_l1Cur_text.mono_l k
    · intro y0 y1 y2 y3 y4 y5
      unfold spec_l1Cur_text.l0
      repeat' first|(with_reducible first|exact ih0 _ _ _ _ _ _|exact LeO.refl _|exact LeO.none _|refine LeO.ite ?_ ?_|refine LeO.bind ?_ (fun _=>?_))|exact ih0 _ _ _ _ _ _|exact LeO.none _|refine LeO.ite ?_ ?_|refine LeO.bind ?_ (fun _=>?_)
theorem spec_l1Cur_text.mono:∀ a0 a1 a2 a3 k,LeO (spec_l1Cur_text.f k a0 a1 a2 a3) (spec_l1Cur_text.f (k + 1) a0 a1 a2 a3):=by
  intro a0 a1 a2 a3 k
  have ih0:=spec_l1Cur_text.mono_l k
  unfold spec_l1Cur_text.f
  repeat' first|(with_reducible first|exact ih0 _ _ _ _ _ _|exact LeO.refl _|exact LeO.none _|refine LeO.ite ?_ ?_|refine LeO.bind ?_ (fun _=>?_))|exact ih0 _ _ _ _ _ _|exact LeO.none _|refine LeO.ite ?_ ?_|refine LeO.bind ?_ (fun _=>?_)
set_option maxHeartbeats 8000000 in
set_option maxRecDepth 100000 in
theorem spec_l1Cur_text.calls (k:Nat) (g:Nat) (s0_0:List Int) (s0_1:Int) (s0_2:Int) (a1:Int) (r1:ByteArray) (r2:Int) (r3:Int) (w0 w:World) (hI:IsS68 w0 w g s0_0 s0_1 s0_2) (hB:Below w0.heap.size w0 w) (h:spec_l1Cur_text.f k s0_0 s0_1 s0_2 a1=some (r1,r2,r3)) :
    Calls Tryd.prog 78 #[.pointer (some ⟨g,0,none⟩),.int .i64 a1] w fun e w'=>e = .returned (.string r1)∧IsS68 w0 w' g s0_0 r2 r3∧Below w0.heap.size w0 w'∧KeepBut w w' g none:=by
 have HI0:=AsZ.mk hI
 have HK:=AsZ.mk (KeepBut.refl w g none)
 have HL:=AsZ.mk hB.size
 clear hI
 have HW0:=AsZ.mk hB.size
 have HB:=AsZ.mk hB
 clear hB
 have H:(if 0≤a1 then (if (a1:Int).toNat≤281474976710656 then ((some (List.replicate (a1:Int).toNat 0:List Int)).bind fun y366=>(spec_l1Cur_text.l0 k y366 (y366.length:Int) 0 s0_0 s0_1 s0_2)) else (none)) else (none))=some (r1,r2,r3):=h
 clear h
 by_cases c3:0≤a1
 rotate_left
 · rw [if_neg c3] at H
   exact absurd H (by simp)
 rw [if_pos c3] at H
 have c3b0:=eq_true c3
 have c3b1:decide (0≤a1)=true:=zE c3
 clear c3
 by_cases c4:(a1:Int).toNat≤281474976710656
 rotate_left
 · rw [if_neg c4] at H
   exact absurd H (by simp)
 rw [if_pos c4] at H
 have c4b0:=eq_true c4
 have c4b1:decide ((a1:Int).toNat≤281474976710656)=true:=zE c4
 clear c4
 obtain ⟨y366,hy366⟩:∃ y_:List Int,y_=(List.replicate (a1:Int).toNat 0):=⟨_,rfl⟩
 replace H:(spec_l1Cur_text.l0 k y366 (y366.length:Int) 0 s0_0 s0_1 s0_2)=some (r1,r2,r3):=ry hy366 H
 have Ny366:=AsZ.mk hy366
 clear hy366
 have H':=AsZ.mk H
 clear H
 go_enter Tryd.func78,Tryd.ntmps78
 go_wp2_with (first|((with_reducible refine gate_dst (N:=8) rfl ?_);refine Kd.R_make (Kd.int .u8) _ 5 rfl (N:=8) rfl 22 _ _ rfl a1 rfl rfl Tryd.underlying22 (.int .u8 0) 1 info5 rfl (by decide) (by omega) 0 (ok:=fun _=>True) (okp:=fun _=>True) rfl (fun _ hk=>hk) trivial dd (Nat.le_trans (Nat.mul_le_mul_right _ (dd:a1.toNat≤281474976710656)) (by omega)) (Below.refl _ _) (Nat.le_refl _) ?_;intro v367 w5 ho6 hb hg_ hnew_;clear hg_ hnew_;(first|rw [← Ny366.out] at ho6|(simp only [Int.reduceToNat] at ho6;rw [← Ny366.out] at ho6));have HO368:=AsZ.mk (Kd.R_lower ho6 (keep_size (w:=w) (g:=g) (row:=none) (kB HK)));replace HI0:=AsZ.mk (IsS68.below (st68 HI0) hb);replace HK:=AsZ.mk (KeepBut.trans (kB HK) (KeepBut.of_below hb g none) (.inl rfl));replace HB:=bp hb;clear hb ho6;obtain ⟨Ao7,co7,eo7⟩:=Kd.R_slice HO368.out;subst eo7))
 go_loopg [11] k (fun kq v11 w' => ∃ (x5_1:List Int) (x11_1:Int) (x1001_1:Int) (x1002_1:Int),v11 = .int .i64 x11_1∧AsZ (spec_l1Cur_text.l0 kq x5_1 (y366.length:Int) x11_1 s0_0 x1001_1 x1002_1=some (r1,r2,r3))∧AsZ (kq≤k)∧AsZ (Kd.R (Kd.int .u8) 5 w' w.heap.size (fun _=>True) (.slice Ao7 y366.length co7) x5_1)∧AsZ (IsS68 w0 w' g s0_0 x1001_1 x1002_1)∧AsZ (KeepBut w w' g none)∧AsZ (Below w0.heap.size w0 w'))
 case atStart=>exact ⟨(y366),(0),(s0_1),(s0_2),rs,H',⟨Nat.le_refl _⟩,⟨kR HO368⟩,⟨st68 HI0⟩,⟨kB HK⟩,⟨bel⟩⟩
 case round =>
  clear H'
  try clear p2
  try clear c3b0
  try clear c3b1
  try clear c4b0
  try clear c4b1
  obtain ⟨x5_1,x11_1,x1001_1,x1002_1,rfl,HA,HK1,HO_5,HI0,HK,HB⟩:=hrel
  have hl5_1:=(Kd.R_reads' HO_5.out).1
  rw [hl5_1] at HO_5
  (try simp only [hl5_1])
  cases gk with
  |zero=>exact absurd HA.out (by simp [spec_l1Cur_text.l0])
  |succ k1 =>
   have H:=HA.out
   clear HA
   simp only [spec_l1Cur_text.l0] at H
   by_cases c8:x11_1 < (y366.length:Int)
   rotate_left
   · rw [if_neg c8] at H
     have c8b0:decide (x11_1 < (y366.length:Int))=false:=decide_eq_false c8
     (try (have c8b0h:=c8b0;simp only [hl5_1] at c8b0h))
     clear c8
     simp only [Option.some.injEq,Prod.mk.injEq] at H
     obtain ⟨rfl,rfl,rfl⟩:=H
     have hcv16:=own_string (P:=Tryd.prog) Tryd.underlying22 Tryd.underlying5 Tryd.underlying9 (Kd.own_of_R HO_5.out)
     go_wp2
     go_ret
     exact ⟨re,st68 HI0,bel,kB HK⟩
   rw [if_pos c8] at H
   have c8b0:decide (x11_1 < (y366.length:Int))=true:=zE c8
   (try (have c8b0h:=c8b0;simp only [hl5_1] at c8b0h))
   clear c8
   replace H:=bs H
   obtain ⟨⟨t369,t370,t371⟩,A9,H⟩:=H
   by_cases c10:0≤x11_1
   rotate_left
   · rw [if_neg c10] at H
     exact absurd H (by simp)
   rw [if_pos c10] at H
   have c10b0:decide (0≤x11_1)=true:=zE c10
   clear c10
   by_cases c11:x11_1 < (x5_1.length:Int)
   rotate_left
   · rw [if_neg c11] at H
     exact absurd H (by simp)
   rw [if_pos c11] at H
   have c11b0:decide (x11_1 < (x5_1.length:Int))=true:=zE c11
   (try (have c11b0h:=c11b0;simp only [hl5_1] at c11b0h))
   clear c11
   obtain ⟨y372,hy372⟩:∃ y_:List Int,y_=(x5_1.set (x11_1:Int).toNat ((t369) % 256)):=⟨_,rfl⟩
   replace H:(spec_l1Cur_text.l0 k1 y372 (y366.length:Int) (wrap64 (x11_1 + 1)) s0_0 t370 t371)=some (r1,r2,r3):=ry hy372 H
   have Ny372:=AsZ.mk hy372
   clear hy372
   have H':=AsZ.mk H
   clear H
   go_wp2_with (first|((with_reducible refine gcl (f:=75) rfl ?_);refine goesL_ (some 17) rfl rfl Tryd.func75 (by kernel_rfl) rfl #[.pointer (some ⟨g,0,none⟩),.int .i64 256] rfl gl ?_;(with_reducible refine (spec_l1Cur_pick.calls g s0_0 x1001_1 x1002_1 256 t369 t370 t371 w0 _ ?side1 ?side2 A9.out).mono ?_);(case side1=>exact st68 HI0);(case side2=>exact bel);rintro e w13 ⟨rfl,hi,hb,hk⟩;refine ⟨_,rfl,?_⟩;replace HO_5:=AsZ.mk (Kd.R_mono (Kd.R_keep (IsS68.apart (show IsS68 w0 _ g s0_0 x1001_1 x1002_1 from st68 HI0) (kR HO_5) (by decide)) hk (fun _ h=>h.2)) (fun _ h=>h.1));replace HK:=AsZ.mk (KeepBut.trans (kB HK) hk (.inl rfl));replace HB:=AsZ.mk (hb);replace HI0:=AsZ.mk (hi);(try clear hb);(try clear hb2);(try clear hk);(try clear hi);have p12:0≤(x11_1:Int):=dd;have q12:(x11_1:Int) < ((x5_1.length:Int):Int):=dd;obtain ⟨go12,co12,eo12,gb12,gl12,cl12,HG12⟩:=Kd.R_form HO_5.out (by omega);(first|cases eo12|(injection eo12 with ea_ en_ ec_;(first|subst ea_|(injection ea_ with ea_;subst ea_));subst ec_;clear en_));have GB12:=AsZ.mk gb12;have GG12:=AsZ.mk HG12;clear gb12 gl12 HG12;obtain ⟨hx12_0,hf12_0⟩:=Kd.R_celln 0 HO_5.out (x11_1:Int) p12 q12;replace p12:=eq_true p12;replace q12:=eq_true q12;obtain ⟨hy14_,hz14_⟩:=Kd.R_celln 0 HO_5.out (x11_1:Int) dd dd;have HP14:=Kd.R_putg HO_5.out (x11_1:Int) ((t369) % 256))|((with_reducible refine gate_store (t:=5) (p:=19) rfl ?_);refine store_event (t:=5) (p:=19) (v:=?vo_w15) (w1:=(w13.setCell ⟨go12,(x11_1:Int).toNat,none⟩ (.int .u8 ((t369) % 256)))) ?hg ?ho ?hn ?hr ?_;(case ho=>rfl);(case hg=>rfl);(case hn=>rfl);(case hr=>first|(go_simp;done)|(go_simp;rfl));intro w15 hw;have hg:w13.grownBy w15 (some go12):=(by rw [hw];exact HP14.2);have hp_:Kd.R (Kd.int .u8) 5 w15 w.heap.size (fun _=>True) (.slice (some ⟨go12,0,none⟩) x5_1.length co7) y372:=(by rw [hw,Ny372.out];exact HP14.1);clear HP14;replace HI0:=AsZ.mk (IsS68.grown (st68 HI0) hg (IsS68.own_ne HI0.out HO_5.out (by decide)));replace HB:=AsZ.mk ((by rw [hw];exact bws (HB.out) (Nat.le_trans HL.out GB12.out):Below w0.heap.size w0 w15));replace HK:=AsZ.mk (KeepBut.trans (kB HK) (KeepBut.of_grown hg g) (Kd.R_base2 HO_5.out));replace HO_5:=AsZ.mk (hp_);clear hg hw hp_))
   (try simp only [← hl5_1])
   go_roundg k1
   case measure=>have:=HK1.out;omega
   case rel=>exact ⟨(y372),(wrap64 (x11_1 + 1)),(t370),(t371),rs,H',⟨by have:=HK1.out;omega⟩,⟨by (try simp only [hl5_1]);(with_reducible repeat (first|apply Kd.R_alloc|apply Kd.R_drewN|apply Kd.R_drew));exact HO_5.out⟩,⟨st68 HI0⟩,⟨kB HK⟩,⟨bel⟩⟩
/-! ### spec_l1Cur_among: function 79 -/
def spec_l1Cur_among.f (s0_0:List Int) (s0_1:Int) (s0_2:Int) (l1:List Int):Option (Int × Int × Int):=(spec_l1Cur_pick.f s0_0 s0_1 s0_2 (l1.length:Int)).bind fun bt373=>(if 0≤bt373.1 then (if bt373.1 < (l1.length:Int) then (some (rd l1 bt373.1,bt373.2.1,bt373.2.2)) else (none)) else (none))
set_option maxHeartbeats 8000000 in
set_option maxRecDepth 100000 in
theorem spec_l1Cur_among.calls (g:Nat) (s0_0:List Int) (s0_1:Int) (s0_2:Int) (A1:Option Addr) (c1:Nat) (l1:List Int) (r1:Int) (r2:Int) (r3:Int) (w0 w:World) (hI:IsS68 w0 w g s0_0 s0_1 s0_2) (hB:Below w0.heap.size w0 w) (hr1:Kd.C (Kd.int .i64) w A1 l1.length l1) (hc1:l1.length≤c1) (hf1:∀ ad,A1=some ad→0 < l1.length→ad.block ≠ g) (h:spec_l1Cur_among.f s0_0 s0_1 s0_2 l1=some (r1,r2,r3)) :
    Calls Tryd.prog 79 #[.pointer (some ⟨g,0,none⟩),.slice A1 l1.length c1] w fun e w'=>e = .returned (.int .i64 r1)∧IsS68 w0 w' g s0_0 r2 r3∧Below w0.heap.size w0 w'∧KeepBut w w' g none:=by
 have HR1:=AsZ.mk hr1
 have HC1:=AsZ.mk hc1
 clear hr1 hc1
 have HI0:=AsZ.mk hI
 have HK:=AsZ.mk (KeepBut.refl w g none)
 have HL:=AsZ.mk hB.size
 clear hI
 have HW0:=AsZ.mk hB.size
 have HB:=AsZ.mk hB
 clear hB
 have H:((spec_l1Cur_pick.f s0_0 s0_1 s0_2 (l1.length:Int)).bind fun bt373=>(if 0≤bt373.1 then (if bt373.1 < (l1.length:Int) then (some (rd l1 bt373.1,bt373.2.1,bt373.2.2)) else (none)) else (none)))=some (r1,r2,r3):=h
 clear h
 replace H:=bs H
 obtain ⟨⟨t373,t374,t375⟩,A3,H⟩:=H
 by_cases c4:0≤t373
 rotate_left
 · rw [if_neg c4] at H
   exact absurd H (by simp)
 rw [if_pos c4] at H
 have c4b0:decide (0≤t373)=true:=zE c4
 clear c4
 by_cases c5:t373 < (l1.length:Int)
 rotate_left
 · rw [if_neg c5] at H
   exact absurd H (by simp)
 rw [if_pos c5] at H
 have c5b0:decide (t373 < (l1.length:Int))=true:=zE c5
 clear c5
 simp only [Option.some.injEq,Prod.mk.injEq] at H
 obtain ⟨rfl,rfl,rfl⟩:=H
 go_enter Tryd.func79,Tryd.ntmps79
 go_wp2_with (first|((with_reducible refine gcl (f:=75) rfl ?_);refine goesL_ (some 9) rfl rfl Tryd.func75 (by kernel_rfl) rfl #[.pointer (some ⟨g,0,none⟩),.int .i64 (l1.length:Int)] rfl gl ?_;(with_reducible refine (spec_l1Cur_pick.calls g s0_0 s0_1 s0_2 (l1.length:Int) t373 t374 t375 w0 _ ?side1 ?side2 A3.out).mono ?_);(case side1=>exact st68 HI0);(case side2=>exact bel);rintro e w6 ⟨rfl,hi,hb,hk⟩;refine ⟨_,rfl,?_⟩;replace HK:=AsZ.mk (KeepBut.trans (kB HK) hk (.inl rfl));replace HB:=AsZ.mk (hb);replace HI0:=AsZ.mk (hi);(try clear hb);(try clear hb2);(try clear hk);(try clear hi);have p376:0≤(t373:Int):=dd;have q376:t373 < (l1.length:Int):=dd;obtain ⟨ad376,e376,hx376_0⟩:=Kd.at_int HR1.out t373 p376 q376;cases e376;replace hx376_0:=keep_cell HK.out hx376_0 (by first|(rw [add_block];exact hf1 _ rfl (by omega))|exact hf1 _ rfl (by omega)|exact hf1 ad376 rfl (by omega));replace p376:=eq_true p376;replace q376:=eq_true q376))
 go_ret
 exact ⟨re,st68 HI0,bel,kB HK⟩
/-! ### spec_l1Cur_item: function 38 -/
def spec_l1Cur_item.j0:Nat→List Int→Int→Int→ByteArray→Int→Int→ByteArray→Option (ByteArray × Int × Int × ByteArray × Int × Int)
  |0,_,_,_,_,_,_,_=>none
  |k + 1,x1000,x1001,x1002,x391000,x391001,x391002,x391003=>(spec_l1Cur_pick.f x1000 x1001 x1002 60).bind fun bt394=>(if bt394.1=0 then ((spec_l1Cur_among.f x1000 bt394.2.1 bt394.2.2 (([(-1),1000000000,1000000001]:List Int))).bind fun bt400=>(some (x391000,bt400.1,x391002,x391003,bt400.2.1,bt400.2.2))) else (if bt394.1=1 then ((spec_l1Cur_pick.f x1000 bt394.2.1 bt394.2.2 2).bind fun bt403=>(if 0≤(wrap64 (40 + bt403.1)) then (if (wrap64 (40 + bt403.1):Int).toNat≤281474976710656 then (some (x391000,x391001,x391002,strOfNums (List.replicate (wrap64 (40 + bt403.1):Int).toNat 0),bt403.2.1,bt403.2.2)) else (none)) else (none))) else (some (x391000,x391001,x391002,x391003,bt394.2.1,bt394.2.2))))
def spec_l1Cur_item.f (k:Nat) (s0_0:List Int) (s0_1:Int) (s0_2:Int):Option (ByteArray × Int × Int × ByteArray × Int × Int):=(spec_l1Cur_key.f s0_0 s0_1 s0_2).bind fun bt378=>((spec_l1Cur_pick.f s0_0 bt378.2.1 bt378.2.2 20).bind fun bt381=>((spec_l1Cur_pick.f s0_0 bt381.2.1 bt381.2.2 5).bind fun bt384=>((spec_l1Cur_text.f k s0_0 bt384.2.1 bt384.2.2 bt384.1).bind fun bt387=>((spec_l1Cur_one.f s0_0 bt387.2.1 bt387.2.2 4).bind fun bt391=>(if bt391.1=true then (spec_l1Cur_item.j0 k s0_0 bt391.2.1 bt391.2.2 bt378.1 bt381.1 0 (⟨#[]⟩:ByteArray)) else (spec_l1Cur_item.j0 k s0_0 bt391.2.1 bt391.2.2 bt378.1 bt381.1 1 bt387.1))))))
theorem spec_l1Cur_item.mono_l:∀ k,(∀ y0 y1 y2 y3 y4 y5 y6,LeO (spec_l1Cur_item.j0 k y0 y1 y2 y3 y4 y5 y6) (spec_l1Cur_item.j0 (k + 1) y0 y1 y2 y3 y4 y5 y6))
  |0=>fun _ _ _ _ _ _ _ r h=>by simp [spec_l1Cur_item.j0] at h
  |k + 1=>by
    have ih0:=spec_l1Cur_item.mono_l k
    · intro y0 y1 y2 y3 y4 y5 y6
      unfold spec_l1Cur_item.j0
      repeat' first|(with_reducible first|exact ih0 _ _ _ _ _ _ _|exact spec_l1Cur_text.mono _ _ _ _ _|exact LeO.refl _|exact LeO.none _|refine LeO.ite ?_ ?_|refine LeO.bind ?_ (fun _=>?_))|exact ih0 _ _ _ _ _ _ _|exact spec_l1Cur_text.mono _ _ _ _ _|exact LeO.none _|refine LeO.ite ?_ ?_|refine LeO.bind ?_ (fun _=>?_)
theorem spec_l1Cur_item.mono:∀ a0 a1 a2 k,LeO (spec_l1Cur_item.f k a0 a1 a2) (spec_l1Cur_item.f (k + 1) a0 a1 a2):=by
  intro a0 a1 a2 k
  have ih0:=spec_l1Cur_item.mono_l k
  unfold spec_l1Cur_item.f
  repeat' first|(with_reducible first|exact ih0 _ _ _ _ _ _ _|exact spec_l1Cur_text.mono _ _ _ _ _|exact LeO.refl _|exact LeO.none _|refine LeO.ite ?_ ?_|refine LeO.bind ?_ (fun _=>?_))|exact ih0 _ _ _ _ _ _ _|exact spec_l1Cur_text.mono _ _ _ _ _|exact LeO.none _|refine LeO.ite ?_ ?_|refine LeO.bind ?_ (fun _=>?_)
set_option maxHeartbeats 8000000 in
set_option maxRecDepth 100000 in
theorem spec_l1Cur_item.calls (k:Nat) (g:Nat) (s0_0:List Int) (s0_1:Int) (s0_2:Int) (r1:ByteArray) (r2:Int) (r3:Int) (r4:ByteArray) (r5:Int) (r6:Int) (w0 w:World) (hI:IsS68 w0 w g s0_0 s0_1 s0_2) (hB:Below w0.heap.size w0 w) (h:spec_l1Cur_item.f k s0_0 s0_1 s0_2=some (r1,r2,r3,r4,r5,r6)) :
    Calls Tryd.prog 38 #[.pointer (some ⟨g,0,none⟩)] w fun e w'=>e = .returned (.agg #[.string r1,.int .i64 r2,.int .i64 r3,.string r4])∧IsS68 w0 w' g s0_0 r5 r6∧Below w0.heap.size w0 w'∧KeepBut w w' g none:=by
 have hu28:=Tryd.underlying28
 have HI0:=AsZ.mk hI
 have HK:=AsZ.mk (KeepBut.refl w g none)
 have HL:=AsZ.mk hB.size
 clear hI
 have HW0:=AsZ.mk hB.size
 have HB:=AsZ.mk hB
 clear hB
 have H:((spec_l1Cur_key.f s0_0 s0_1 s0_2).bind fun bt378=>((spec_l1Cur_pick.f s0_0 bt378.2.1 bt378.2.2 20).bind fun bt381=>((spec_l1Cur_pick.f s0_0 bt381.2.1 bt381.2.2 5).bind fun bt384=>((spec_l1Cur_text.f k s0_0 bt384.2.1 bt384.2.2 bt384.1).bind fun bt387=>((spec_l1Cur_one.f s0_0 bt387.2.1 bt387.2.2 4).bind fun bt391=>(if bt391.1=true then (spec_l1Cur_item.j0 k s0_0 bt391.2.1 bt391.2.2 bt378.1 bt381.1 0 (⟨#[]⟩:ByteArray)) else (spec_l1Cur_item.j0 k s0_0 bt391.2.1 bt391.2.2 bt378.1 bt381.1 1 bt387.1)))))))=some (r1,r2,r3,r4,r5,r6):=h
 clear h
 replace H:=bs H
 obtain ⟨⟨t378,t379,t380⟩,A2,H⟩:=H
 replace H:=bs H
 obtain ⟨⟨t381,t382,t383⟩,A3,H⟩:=H
 replace H:=bs H
 obtain ⟨⟨t384,t385,t386⟩,A4,H⟩:=H
 replace H:=bs H
 obtain ⟨⟨t387,t388,t389⟩,A5,H⟩:=H
 replace H:=bs H
 obtain ⟨⟨t391,t392,t393⟩,A6,H⟩:=H
 have HC7:=AsZ.mk H
 clear H
 go_enter Tryd.func38,Tryd.ntmps38
 go_upto_if 14 with (first|((with_reducible refine gate_dst (N:=2) rfl ?_);refine bev 2 28 (cs:=#[.string (⟨#[]⟩:ByteArray),.int .i64 0,.int .i64 0,.string (⟨#[]⟩:ByteArray)]) ?_;intro gb377 hg w8 hbox hb;have BK377:=AsZ.mk (hbox);have GW377:=AsZ.mk ((by rw [hg];exact (keep_size (w:=w) (g:=g) (row:=none) (kB HK)):w.heap.size≤gb377));have GE377:=AsZ.mk ((Nat.le_trans HW0.out (by rw [hg];exact (keep_size (w:=w) (g:=g) (row:=none) (kB HK)):w.heap.size≤gb377):w0.heap.size≤gb377));have NB0_377:=AsZ.mk ((by rw [hg];exact Nat.ne_of_lt (IsS68.lt (show IsS68 w0 _ g s0_0 s0_1 s0_2 from st68 HI0)):g ≠ gb377));have NB377_0:=AsZ.mk ((by rw [hg];exact Nat.ne_of_gt (IsS68.lt (show IsS68 w0 _ g s0_0 s0_1 s0_2 from st68 HI0)):gb377 ≠ g));replace HI0:=AsZ.mk (IsS68.below (st68 HI0) hb);replace HK:=AsZ.mk (KeepBut.trans (kB HK) (KeepBut.of_below hb g none) (.inl rfl));replace HB:=bp hb;clear hb hbox hg)|((with_reducible refine gcl (f:=77) rfl ?_);refine goesL_ (some 5) rfl rfl Tryd.func77 (by kernel_rfl) rfl #[.pointer (some ⟨g,0,none⟩)] rfl gl ?_;(with_reducible refine (spec_l1Cur_key.calls g s0_0 s0_1 s0_2 t378 t379 t380 w0 _ ?side1 ?side2 A2.out).mono ?_);(case side1=>exact st68 HI0);(case side2=>exact bel);rintro e w9 ⟨rfl,hi,hb,hk⟩;refine ⟨_,rfl,?_⟩;replace BK377:=AsZ.mk (KeepBut.blk hk (bk BK377) NB377_0.out (by simp));replace HK:=AsZ.mk (KeepBut.trans (kB HK) hk (.inl rfl));replace HB:=AsZ.mk (hb);replace HI0:=AsZ.mk (hi);(try clear hb);(try clear hb2);(try clear hk);(try clear hi))|((with_reducible refine gcl (f:=75) rfl ?_);refine goesL_ (some 7) rfl rfl Tryd.func75 (by kernel_rfl) rfl #[.pointer (some ⟨g,0,none⟩),.int .i64 20] rfl gl ?_;(with_reducible refine (spec_l1Cur_pick.calls g s0_0 t379 t380 20 t381 t382 t383 w0 _ ?side1 ?side2 A3.out).mono ?_);(case side1=>exact st68 HI0);(case side2=>exact bel);rintro e w10 ⟨rfl,hi,hb,hk⟩;refine ⟨_,rfl,?_⟩;replace BK377:=AsZ.mk (KeepBut.blk hk (bk BK377) NB377_0.out (by simp));replace HK:=AsZ.mk (KeepBut.trans (kB HK) hk (.inl rfl));replace HB:=AsZ.mk (hb);replace HI0:=AsZ.mk (hi);(try clear hb);(try clear hb2);(try clear hk);(try clear hi))|((with_reducible refine gcl (f:=75) rfl ?_);refine goesL_ (some 10) rfl rfl Tryd.func75 (by kernel_rfl) rfl #[.pointer (some ⟨g,0,none⟩),.int .i64 5] rfl gl ?_;(with_reducible refine (spec_l1Cur_pick.calls g s0_0 t382 t383 5 t384 t385 t386 w0 _ ?side1 ?side2 A4.out).mono ?_);(case side1=>exact st68 HI0);(case side2=>exact bel);rintro e w11 ⟨rfl,hi,hb,hk⟩;refine ⟨_,rfl,?_⟩;replace BK377:=AsZ.mk (KeepBut.blk hk (bk BK377) NB377_0.out (by simp));replace HK:=AsZ.mk (KeepBut.trans (kB HK) hk (.inl rfl));replace HB:=AsZ.mk (hb);replace HI0:=AsZ.mk (hi);(try clear hb);(try clear hb2);(try clear hk);(try clear hi))|((with_reducible refine gcl (f:=78) rfl ?_);refine goesL_ (some 11) rfl rfl Tryd.func78 (by kernel_rfl) rfl #[.pointer (some ⟨g,0,none⟩),.int .i64 t384] rfl gl ?_;(with_reducible refine (spec_l1Cur_text.calls k g s0_0 t385 t386 t384 t387 t388 t389 w0 _ ?side1 ?side2 A5.out).mono ?_);(case side1=>exact st68 HI0);(case side2=>exact bel);rintro e w12 ⟨rfl,hi,hb,hk⟩;refine ⟨_,rfl,?_⟩;replace BK377:=AsZ.mk (KeepBut.blk hk (bk BK377) NB377_0.out (by simp));replace HK:=AsZ.mk (KeepBut.trans (kB HK) hk (.inl rfl));replace HB:=AsZ.mk (hb);replace HI0:=AsZ.mk (hi);(try clear hb);(try clear hb2);(try clear hk);(try clear hi))|((with_reducible refine gate_dst (N:=3) rfl ?_);refine bev 3 28 (cs:=#[.string (⟨#[]⟩:ByteArray),.int .i64 0,.int .i64 0,.string (⟨#[]⟩:ByteArray)]) ?_;intro gb390 hg w13 hbox hb;have BK390:=AsZ.mk (hbox);have GW390:=AsZ.mk ((by rw [hg];exact (keep_size (w:=w) (g:=g) (row:=none) (kB HK)):w.heap.size≤gb390));have GE390:=AsZ.mk ((Nat.le_trans HW0.out (by rw [hg];exact (keep_size (w:=w) (g:=g) (row:=none) (kB HK)):w.heap.size≤gb390):w0.heap.size≤gb390));have NB377_390:=nl BK377 hg;have NB390_377:=nr BK377 hg;have NB0_390:=AsZ.mk ((by rw [hg];exact Nat.ne_of_lt (IsS68.lt (show IsS68 w0 _ g s0_0 t388 t389 from st68 HI0)):g ≠ gb390));have NB390_0:=AsZ.mk ((by rw [hg];exact Nat.ne_of_gt (IsS68.lt (show IsS68 w0 _ g s0_0 t388 t389 from st68 HI0)):gb390 ≠ g));replace HI0:=AsZ.mk (IsS68.below (st68 HI0) hb);replace BK377:=bb BK377 hb;replace HK:=AsZ.mk (KeepBut.trans (kB HK) (KeepBut.of_below hb g none) (.inl rfl));replace HB:=bp hb;clear hb hbox hg;have hnb14:=NB390_377.out;have hnc14:=NB377_390.out;have hnb15:=NB390_0.out;have hnc15:=NB0_390.out;obtain ⟨hcz16_0,hcz16_1,hcz16_2,hcz16_3,hfz16_0,hfz16_1,hfz16_2,hfz16_3⟩:=bx4 BK390)|((with_reducible refine gcl (f:=76) rfl ?_);refine goesL_ (some 14) rfl rfl Tryd.func76 (by kernel_rfl) rfl #[.pointer (some ⟨g,0,none⟩),.int .i64 4] rfl gl ?_;(with_reducible refine (spec_l1Cur_one.calls g s0_0 t388 t389 4 t391 t392 t393 w0 _ ?side1 ?side2 A6.out).mono ?_);(case side1=>exact st68 HI0);(case side2=>exact bel);rintro e w17 ⟨rfl,hi,hb,hk⟩;refine ⟨_,rfl,?_⟩;replace BK377:=AsZ.mk (KeepBut.blk hk (g':=gb377) (o := .cells #[.string (⟨#[]⟩:ByteArray),.int .i64 0,.int .i64 0,.string (⟨#[]⟩:ByteArray)] 28 (0,0)) (bq BK377) NB377_0.out (by simp));replace BK390:=AsZ.mk (KeepBut.blk hk (g':=gb390) (o := .cells #[.string t378,.int .i64 t381,.int .i64 1,.string t387] 28 (0,0)) (bq BK390) NB390_0.out (by simp));replace HK:=AsZ.mk (KeepBut.trans (kB HK) hk (.inl rfl));replace HB:=AsZ.mk (hb);replace HI0:=AsZ.mk (hi);(try clear hb);(try clear hb2);(try clear hk);(try clear hi)))
 (try simp only [Act.put,zS,zT,zU])
 go_cut [] (fun wc => ∃ (kq:Nat) (x391002_6:Int) (x391003_6:ByteArray),AsZ (spec_l1Cur_item.j0 kq s0_0 t392 t393 t378 t381 x391002_6 x391003_6=some (r1,r2,r3,r4,r5,r6))∧AsZ (kq≤k)∧AsZ (wc.heap[gb377]? = some (.cells #[.string (⟨#[]⟩:ByteArray),.int .i64 0,.int .i64 0,.string (⟨#[]⟩:ByteArray)] 28 (0,0)))∧AsZ (wc.heap[gb390]? = some (.cells #[.string t378,.int .i64 t381,.int .i64 x391002_6,.string x391003_6] 28 (0,0)))∧AsZ (IsS68 w0 wc g s0_0 t392 t393)∧AsZ (KeepBut w wc g none)∧AsZ (Below w0.heap.size w0 wc))
 case first =>
  have H:=HC7.out
  clear HC7
  by_cases c18:t391=true
  rotate_left
  · replace c18:=Bool.eq_false_iff.mpr c18
    subst c18
    replace H:=iN H
    have H':=AsZ.mk H
    clear H
    go_wp2
    go_meet
    case rel=>exact ⟨_,(1),(t387),H',⟨lo⟩,⟨bk BK377⟩,⟨bk BK390⟩,⟨st68 HI0⟩,⟨kB HK⟩,⟨bel⟩⟩
  subst c18
  replace H:=iP H
  have H':=AsZ.mk H
  clear H
  have hnb19:=NB390_377.out
  have hnc19:=NB377_390.out
  have hnb20:=NB390_0.out
  have hnc20:=NB0_390.out
  obtain ⟨hcz21_0,hcz21_1,hcz21_2,hcz21_3,hfz21_0,hfz21_1,hfz21_2,hfz21_3⟩:=bx4 BK390
  go_wp2
  go_meet
  case rel=>exact ⟨_,(0),((⟨#[]⟩:ByteArray)),H',⟨lo⟩,⟨bq BK377⟩,⟨bq BK390⟩,⟨st68 HI0⟩,⟨kB HK⟩,⟨bel⟩⟩
 case rest =>
  clear HC7
  try clear p2
  try clear hcz16_0 hcz16_1 hcz16_2 hcz16_3 hfz16_0 hfz16_1 hfz16_2 hfz16_3
  try clear hcz21_0 hcz21_1 hcz21_2 hcz21_3 hfz21_0 hfz21_1 hfz21_2 hfz21_3
  obtain ⟨kq,x391002_6,x391003_6,HA,HJ6,BK377,BK390,HI0,HK,HB⟩:=hcut
  cases kq with
  |zero=>exact absurd HA.out (by simp [spec_l1Cur_item.j0])
  |succ kj6 =>
   have H:=HA.out
   clear HA
   simp only [spec_l1Cur_item.j0] at H
   replace H:=bs H
   obtain ⟨⟨t394,t395,t396⟩,A22,H⟩:=H
   by_cases c23:t394=0
   · rw [if_pos c23] at H
     have c23b0:(t394 == 0)=true:=beq_iff_eq.mpr c23
     have c23b1:(t394 != 0)=false:=bne_eq_false_iff_eq.mpr c23
     clear c23
     obtain ⟨y397,hy397⟩:∃ y_:List Int,y_=(([(-1),1000000000,1000000001]:List Int)):=⟨_,rfl⟩
     replace H:((spec_l1Cur_among.f s0_0 t395 t396 y397).bind fun bt400=>(some (t378,bt400.1,x391002_6,x391003_6,bt400.2.1,bt400.2.2)))=some (r1,r2,r3,r4,r5,r6):=ry hy397 H
     have Ny397:=AsZ.mk hy397
     clear hy397
     replace H:=bs H
     obtain ⟨⟨t400,t401,t402⟩,A24,H⟩:=H
     simp only [Option.some.injEq,Prod.mk.injEq] at H
     obtain ⟨rfl,rfl,rfl,rfl,rfl,rfl⟩:=H
     go_wp2_with (first|((with_reducible refine gcl (f:=75) rfl ?_);refine goesL_ (some 18) rfl rfl Tryd.func75 (by kernel_rfl) rfl #[.pointer (some ⟨g,0,none⟩),.int .i64 60] rfl gl ?_;(with_reducible refine (spec_l1Cur_pick.calls g s0_0 t392 t393 60 t394 t395 t396 w0 _ ?side1 ?side2 A22.out).mono ?_);(case side1=>exact st68 HI0);(case side2=>exact bel);rintro e w25 ⟨rfl,hi,hb,hk⟩;refine ⟨_,rfl,?_⟩;replace BK377:=AsZ.mk (KeepBut.blk hk (bk BK377) NB377_0.out (by simp));replace BK390:=AsZ.mk (KeepBut.blk hk (bk BK390) NB390_0.out (by simp));replace HK:=AsZ.mk (KeepBut.trans (kB HK) hk (.inl rfl));replace HB:=AsZ.mk (hb);replace HI0:=AsZ.mk (hi);(try clear hb);(try clear hb2);(try clear hk);(try clear hi))|((with_reducible refine gate_dst (N:=22) rfl ?_);refine Kd.R_lit (Kd.int .i64) _ 3 ?hg (N:=22) ?hd (xs:=([(-1),1000000000,1000000001]:List Int)) (inner:=[.int .i64 (-1),.int .i64 1000000000,.int .i64 1000000001]) (ok:=fun _=>True) (okp:=fun _=>True) ?hr ?hp (fun _ hk=>hk) trivial (Below.refl _ _) (Nat.le_refl _) (by simp) ?_;(case hd=>rfl);(case hg=>rfl);(case hr=>first|(go_simp;done)|(go_simp;rfl));(case hp=>exact (Reps.one (show Kd.M (Kd.int .i64) _ _ _ (-1) [.int .i64 (-1)] from rfl) (Reps.one (show Kd.M (Kd.int .i64) _ _ _ 1000000000 [.int .i64 1000000000] from rfl) (Reps.one (show Kd.M (Kd.int .i64) _ _ _ 1000000001 [.int .i64 1000000001] from rfl) (Reps.none _ _)))));intro v398 w26 ho27 hb hg_ hnew_;clear hg_ hnew_;(first|rw [← Ny397.out] at ho27|(simp only [Int.reduceToNat] at ho27;rw [← Ny397.out] at ho27));have HO399:=AsZ.mk (Kd.R_lower ho27 (keep_size (w:=w) (g:=g) (row:=none) (kB HK)));replace BK377:=bb BK377 hb;replace BK390:=bb BK390 hb;replace HI0:=AsZ.mk (IsS68.below (st68 HI0) hb);replace HK:=AsZ.mk (KeepBut.trans (kB HK) (KeepBut.of_below hb g none) (.inl rfl));replace HB:=bp hb;clear hb ho27;obtain ⟨Ao28,co28,eo28⟩:=Kd.R_slice HO399.out;subst eo28)|((with_reducible refine gcl (f:=79) rfl ?_);refine goesL_ (some 23) rfl rfl Tryd.func79 (by kernel_rfl) rfl #[.pointer (some ⟨g,0,none⟩),.slice Ao28 y397.length co28] rfl gl ?_;(with_reducible refine (spec_l1Cur_among.calls g s0_0 t395 t396 _ _ y397 t400 t401 t402 w0 _ ?side1 ?side2 ?side3 ?side4 ?side5 A24.out).mono ?_);(case side1=>exact st68 HI0);(case side2=>exact bel);(case side3=>exact cC (Kd.R_reads' HO399.out).2.2);(case side4=>exact (Kd.R_reads' HO399.out).2.1);(case side5=>exact far_slice (IsS68.own_ne HI0.out HO399.out (by decide)));rintro e w29 ⟨rfl,hi,hb,hk⟩;refine ⟨_,rfl,?_⟩;replace BK377:=AsZ.mk (KeepBut.blk hk (bk BK377) NB377_0.out (by simp));replace BK390:=AsZ.mk (KeepBut.blk hk (bk BK390) NB390_0.out (by simp));replace HO399:=AsZ.mk (Kd.R_mono (Kd.R_keep (IsS68.apart (show IsS68 w0 _ g s0_0 t395 t396 from st68 HI0) (kR HO399) (by decide)) hk (fun _ h=>h.2)) (fun _ h=>h.1));replace HK:=AsZ.mk (KeepBut.trans (kB HK) hk (.inl rfl));replace HB:=AsZ.mk (hb);replace HI0:=AsZ.mk (hi);(try clear hb);(try clear hb2);(try clear hk);(try clear hi);have hnb30:=NB390_377.out;have hnc30:=NB377_390.out;have hnb31:=NB390_0.out;have hnc31:=NB0_390.out;obtain ⟨hcz32_0,hcz32_1,hcz32_2,hcz32_3,hfz32_0,hfz32_1,hfz32_2,hfz32_3⟩:=bx4 BK390;have hnb33:=NB377_0.out;have hnc33:=NB0_377.out;obtain ⟨hcz34_0,hcz34_1,hcz34_2,hcz34_3,hfz34_0,hfz34_1,hfz34_2,hfz34_3⟩:=bx4 BK377))
     refine bodyPost_ret (results_cell_row rfl _ _ gb377 28 #[.string t378,.int .i64 t400,.int .i64 x391002_6,.string x391003_6] (0,0) _ rfl (bq BK377) Tryd.underlying28 rfl (by kernel_rfl)) rfl ?_
     exact ⟨re,st68 HI0,bel,kB HK⟩
   rw [if_neg c23] at H
   have c23b0:(t394 == 0)=false:=beq_eq_false_iff_ne.mpr c23
   have c23b1:(t394 != 0)=true:=bne_iff_ne.mpr c23
   by_cases c35:t394=1
   rotate_left
   · rw [if_neg c35] at H
     have c35b0:(t394 == 1)=false:=beq_eq_false_iff_ne.mpr c35
     have c35b1:(t394 != 1)=true:=bne_iff_ne.mpr c35
     simp only [Option.some.injEq,Prod.mk.injEq] at H
     obtain ⟨rfl,rfl,rfl,rfl,rfl,rfl⟩:=H
     go_wp2_with (first|((with_reducible refine gcl (f:=75) rfl ?_);refine goesL_ (some 18) rfl rfl Tryd.func75 (by kernel_rfl) rfl #[.pointer (some ⟨g,0,none⟩),.int .i64 60] rfl gl ?_;(with_reducible refine (spec_l1Cur_pick.calls g s0_0 t392 t393 60 t394 t395 t396 w0 _ ?side1 ?side2 A22.out).mono ?_);(case side1=>exact st68 HI0);(case side2=>exact bel);rintro e w50 ⟨rfl,hi,hb,hk⟩;refine ⟨_,rfl,?_⟩;replace BK377:=AsZ.mk (KeepBut.blk hk (bk BK377) NB377_0.out (by simp));replace BK390:=AsZ.mk (KeepBut.blk hk (bk BK390) NB390_0.out (by simp));replace HK:=AsZ.mk (KeepBut.trans (kB HK) hk (.inl rfl));replace HB:=AsZ.mk (hb);replace HI0:=AsZ.mk (hi);(try clear hb);(try clear hb2);(try clear hk);(try clear hi);have hnb51:=NB390_377.out;have hnc51:=NB377_390.out;have hnb52:=NB390_0.out;have hnc52:=NB0_390.out;obtain ⟨hcz53_0,hcz53_1,hcz53_2,hcz53_3,hfz53_0,hfz53_1,hfz53_2,hfz53_3⟩:=bx4 BK390;have hnb54:=NB377_0.out;have hnc54:=NB0_377.out;obtain ⟨hcz55_0,hcz55_1,hcz55_2,hcz55_3,hfz55_0,hfz55_1,hfz55_2,hfz55_3⟩:=bx4 BK377))
     refine bodyPost_ret (results_cell_row rfl _ _ gb377 28 #[.string t378,.int .i64 t381,.int .i64 x391002_6,.string x391003_6] (0,0) _ rfl (bq BK377) Tryd.underlying28 rfl (by kernel_rfl)) rfl ?_
     exact ⟨re,st68 HI0,bel,kB HK⟩
   rw [if_pos c35] at H
   have c35b0:(t394 == 1)=true:=beq_iff_eq.mpr c35
   have c35b1:(t394 != 1)=false:=bne_eq_false_iff_eq.mpr c35
   clear c35
   replace H:=bs H
   obtain ⟨⟨t403,t404,t405⟩,A36,H⟩:=H
   obtain ⟨ji37,hji37⟩:∃ j_:Int,(wrap64 (40 + t403))=j_:=⟨_,rfl⟩
   replace H:(if 0≤(ji37) then (if (ji37:Int).toNat≤281474976710656 then (some (t378,t381,x391002_6,strOfNums (List.replicate (ji37:Int).toNat 0),t404,t405)) else (none)) else (none))=some (r1,r2,r3,r4,r5,r6):=by first|(rw [hji37] at H;exact H)|(simp only [hji37] at H ⊢;exact H)
   (try rw [hji37] at A22)
   (try rw [hji37] at A36)
   have hji37w:(IntKind.i64.wrap (40 + t403))=ji37:=(i64_w _).trans hji37
   by_cases c38:0≤(ji37)
   rotate_left
   · rw [if_neg c38] at H
     exact absurd H (by simp)
   rw [if_pos c38] at H
   have c38b0:=eq_true c38
   have c38b1:decide (0≤(ji37))=true:=zE c38
   clear c38
   by_cases c39:(ji37:Int).toNat≤281474976710656
   rotate_left
   · rw [if_neg c39] at H
     exact absurd H (by simp)
   rw [if_pos c39] at H
   have c39b0:=eq_true c39
   have c39b1:decide ((ji37:Int).toNat≤281474976710656)=true:=zE c39
   clear c39
   obtain ⟨y406,hy406⟩:∃ y_:List Int,y_=(List.replicate (ji37:Int).toNat 0):=⟨_,rfl⟩
   replace H:(some (t378,t381,x391002_6,strOfNums y406,t404,t405))=some (r1,r2,r3,r4,r5,r6):=ry hy406 H
   have Ny406:=AsZ.mk hy406
   clear hy406
   simp only [Option.some.injEq,Prod.mk.injEq] at H
   obtain ⟨rfl,rfl,rfl,rfl,rfl,rfl⟩:=H
   go_wp2_with (first|((with_reducible refine gcl (f:=75) rfl ?_);refine goesL_ (some 18) rfl rfl Tryd.func75 (by kernel_rfl) rfl #[.pointer (some ⟨g,0,none⟩),.int .i64 60] rfl gl ?_;(with_reducible refine (spec_l1Cur_pick.calls g s0_0 t392 t393 60 t394 t395 t396 w0 _ ?side1 ?side2 A22.out).mono ?_);(case side1=>exact st68 HI0);(case side2=>exact bel);rintro e w40 ⟨rfl,hi,hb,hk⟩;refine ⟨_,rfl,?_⟩;replace BK377:=AsZ.mk (KeepBut.blk hk (bk BK377) NB377_0.out (by simp));replace BK390:=AsZ.mk (KeepBut.blk hk (bk BK390) NB390_0.out (by simp));replace HK:=AsZ.mk (KeepBut.trans (kB HK) hk (.inl rfl));replace HB:=AsZ.mk (hb);replace HI0:=AsZ.mk (hi);(try clear hb);(try clear hb2);(try clear hk);(try clear hi))|((with_reducible refine gcl (f:=75) rfl ?_);refine goesL_ (some 28) rfl rfl Tryd.func75 (by kernel_rfl) rfl #[.pointer (some ⟨g,0,none⟩),.int .i64 2] rfl gl ?_;(with_reducible refine (spec_l1Cur_pick.calls g s0_0 t395 t396 2 t403 t404 t405 w0 _ ?side1 ?side2 A36.out).mono ?_);(case side1=>exact st68 HI0);(case side2=>exact bel);rintro e w41 ⟨rfl,hi,hb,hk⟩;refine ⟨_,rfl,?_⟩;replace BK377:=AsZ.mk (KeepBut.blk hk (bk BK377) NB377_0.out (by simp));replace BK390:=AsZ.mk (KeepBut.blk hk (bk BK390) NB390_0.out (by simp));replace HK:=AsZ.mk (KeepBut.trans (kB HK) hk (.inl rfl));replace HB:=AsZ.mk (hb);replace HI0:=AsZ.mk (hi);(try clear hb);(try clear hb2);(try clear hk);(try clear hi))|((with_reducible refine gate_dst (N:=30) rfl ?_);refine Kd.R_make (Kd.int .u8) _ 5 rfl (N:=30) rfl 22 _ _ rfl ji37 rfl rfl Tryd.underlying22 (.int .u8 0) 1 info5 rfl (by decide) (by omega) 0 (ok:=fun _=>True) (okp:=fun _=>True) rfl (fun _ hk=>hk) trivial dd (Nat.le_trans (Nat.mul_le_mul_right _ (dd:ji37.toNat≤281474976710656)) (by omega)) (Below.refl _ _) (Nat.le_refl _) ?_;intro v407 w42 ho43 hb hg_ hnew_;clear hg_ hnew_;(first|rw [← Ny406.out] at ho43|(simp only [Int.reduceToNat] at ho43;rw [← Ny406.out] at ho43));have HO408:=AsZ.mk (Kd.R_lower ho43 (keep_size (w:=w) (g:=g) (row:=none) (kB HK)));replace BK377:=bb BK377 hb;replace BK390:=bb BK390 hb;replace HI0:=AsZ.mk (IsS68.below (st68 HI0) hb);replace HK:=AsZ.mk (KeepBut.trans (kB HK) (KeepBut.of_below hb g none) (.inl rfl));replace HB:=bp hb;clear hb ho43;have hcv44:=own_string (P:=Tryd.prog) Tryd.underlying22 Tryd.underlying5 Tryd.underlying9 (Kd.own_of_R HO408.out);have hnb45:=NB390_377.out;have hnc45:=NB377_390.out;have hnb46:=NB390_0.out;have hnc46:=NB0_390.out;obtain ⟨hcz47_0,hcz47_1,hcz47_2,hcz47_3,hfz47_0,hfz47_1,hfz47_2,hfz47_3⟩:=bx4 BK390;have hnb48:=NB377_0.out;have hnc48:=NB0_377.out;obtain ⟨hcz49_0,hcz49_1,hcz49_2,hcz49_3,hfz49_0,hfz49_1,hfz49_2,hfz49_3⟩:=bx4 BK377))
   refine bodyPost_ret (results_cell_row rfl _ _ gb377 28 #[.string t378,.int .i64 t381,.int .i64 x391002_6,.string (strOfNums y406)] (0,0) _ rfl (bq BK377) Tryd.underlying28 rfl (by kernel_rfl)) rfl ?_
   exact ⟨by first|rfl|(simp [errW_none,errW_some]<;>rfl)|(simp only [← hji37];first|rfl|(simp [errW_none,errW_some]<;>rfl))|(simp [*,errW_none,errW_some]<;>rfl),st68 HI0,bel,kB HK⟩
end Go.Proofs.YtffjlpphcjfdgaaDoor.MFnFound
