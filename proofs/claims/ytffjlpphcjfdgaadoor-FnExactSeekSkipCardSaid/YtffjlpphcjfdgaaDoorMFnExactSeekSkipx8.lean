-- Written by a program of this session out of the translation. Not trusted: Lean checks it.
import Derived.Test.YtffjlpphcjfdgaaDoorMFnExactSeekSkipx0
import Derived.Test.YtffjlpphcjfdgaaDoorMFnExactSeekSkipx7
namespace Go.Proofs.YtffjlpphcjfdgaaDoor.MFnExactSeekSkip
-- short
-- shrunk
-- TAB
-- RD
open Go.Proofs.YtffjlpphcjfdgaaDoor Go.RowKit Go.Proofs.YtffjlpphcjfdgaaDoorW.PrintWords Go.Proofs.YtffjlpphcjfdgaaDoorW.PrintLast Go.Proofs.YtffjlpphcjfdgaaDoorW.PrintMore Go.Proofs.YtffjlpphcjfdgaaDoorX
attribute [local go_sem] max2_int min2_int max_two min_two max_three min_three max_four min_four str_gtr str_leq str_geq cell_twice
set_option linter.unusedVariables false
set_option linter.unusedSimpArgs false
/-! ### impl_towerOf: function 44 -/
mutual
def impl_towerOf.l0:Nat→Int→Int→Option (Int)
  |0,_,_=>none
  |k + 1,x5,x6=>if (Go.bits .and .u32 x5 3)=0 then (impl_towerOf.j1 k x5 x6 (decide (x6 < 5))) else (impl_towerOf.j1 k x5 x6 false)
def impl_towerOf.j1:Nat→Int→Int→Bool→Option (Int)
  |0,_,_,_=>none
  |k + 1,x5,x6,x18=>if x18=true then (impl_towerOf.l0 k (x5 / 4) (wrap64 (x6 + 1))) else (some x6)
end
def impl_towerOf.f (k:Nat) (a0:ByteArray) (a1:Int):Option (Int):=(strconv_Itoa.f a1).bind fun t265=>(if a0.size + t265.size≤9223372036854775807 then ((impl_SumOf.f k (a0 ++ t265)).bind fun t266=>(impl_towerOf.l0 k t266 1)) else (none))
theorem impl_towerOf.mono_l:∀ k,(∀ y0 y1,LeO (impl_towerOf.l0 k y0 y1) (impl_towerOf.l0 (k + 1) y0 y1))∧(∀ y0 y1 y2,LeO (impl_towerOf.j1 k y0 y1 y2) (impl_towerOf.j1 (k + 1) y0 y1 y2))
  |0=>⟨fun _ _ r h=>by simp [impl_towerOf.l0] at h,fun _ _ _ r h=>by simp [impl_towerOf.j1] at h⟩
  |k + 1=>by
    obtain ⟨ih0,ih1⟩:=impl_towerOf.mono_l k
    refine ⟨?_,?_⟩
    · intro y0 y1
      unfold impl_towerOf.l0
      repeat' first
      |(with_reducible exact ih0 _ _)
      |(with_reducible exact ih1 _ _ _)
      |(with_reducible exact impl_SumOf.mono _ _)
      |(with_reducible exact LeO.refl _)
      |(with_reducible exact LeO.none _)
      |(with_reducible refine LeO.ite ?_ ?_)
      |(with_reducible refine LeO.bind ?_ (fun _=>?_))
      |exact ih0 _ _
      |exact ih1 _ _ _
      |exact impl_SumOf.mono _ _
      |exact LeO.none _
      |refine LeO.ite ?_ ?_
      |refine LeO.bind ?_ (fun _=>?_)
    · intro y0 y1 y2
      unfold impl_towerOf.j1
      repeat' first
      |(with_reducible exact ih0 _ _)
      |(with_reducible exact ih1 _ _ _)
      |(with_reducible exact impl_SumOf.mono _ _)
      |(with_reducible exact LeO.refl _)
      |(with_reducible exact LeO.none _)
      |(with_reducible refine LeO.ite ?_ ?_)
      |(with_reducible refine LeO.bind ?_ (fun _=>?_))
      |exact ih0 _ _
      |exact ih1 _ _ _
      |exact impl_SumOf.mono _ _
      |exact LeO.none _
      |refine LeO.ite ?_ ?_
      |refine LeO.bind ?_ (fun _=>?_)
theorem impl_towerOf.mono:∀ a0 a1 k,LeO (impl_towerOf.f k a0 a1) (impl_towerOf.f (k + 1) a0 a1):=by
  intro a0 a1 k
  obtain ⟨ih0,ih1⟩:=impl_towerOf.mono_l k
  unfold impl_towerOf.f
  repeat' first
      |(with_reducible exact ih0 _ _)
      |(with_reducible exact ih1 _ _ _)
      |(with_reducible exact impl_SumOf.mono _ _)
      |(with_reducible exact LeO.refl _)
      |(with_reducible exact LeO.none _)
      |(with_reducible refine LeO.ite ?_ ?_)
      |(with_reducible refine LeO.bind ?_ (fun _=>?_))
      |exact ih0 _ _
      |exact ih1 _ _ _
      |exact impl_SumOf.mono _ _
      |exact LeO.none _
      |refine LeO.ite ?_ ?_
      |refine LeO.bind ?_ (fun _=>?_)
set_option maxHeartbeats 8000000 in
set_option maxRecDepth 100000 in
theorem impl_towerOf.calls (k:Nat) (a0:ByteArray) (a1:Int) (r:Int) (w:World) (hT:Tab w) (h:impl_towerOf.f k a0 a1=some r) :
    Calls Tryd.prog 44 #[.string a0,.int .i64 a1] w fun e w'=>e = .returned (.int .i64 r)∧Below w.heap.size w w':=by
 have HT:=AsZ.mk hT
 clear hT
 have HB:=AsZ.mk (Below.refl w.heap.size w)
 have H:((strconv_Itoa.f a1).bind fun t265=>(if a0.size + t265.size≤9223372036854775807 then ((impl_SumOf.f k (a0 ++ t265)).bind fun t266=>(impl_towerOf.l0 k t266 1)) else (none)))=some r:=h
 clear h
 replace H:=Option.bind_eq_some_iff.mp H
 obtain ⟨t265,A30,H⟩:=H
 replace H:(if a0.size + t265.size≤9223372036854775807 then ((impl_SumOf.f k (a0 ++ t265)).bind fun t266=>(impl_towerOf.l0 k t266 1)) else (none))=some r:=H
 have A3:=AsZ.mk A30
 clear A30
 by_cases c4:a0.size + t265.size≤9223372036854775807
 rotate_left
 · rw [if_neg c4] at H
   exact absurd H (by simp)
 rw [if_pos c4] at H
 have c4b0:=eq_true c4
 have c4b1:decide (a0.size + t265.size≤9223372036854775807)=true:=zE c4
 try have c4b2:(9223372036854775807 < a0.size + t265.size)=False:=eq_false (Nat.not_lt.2 c4)
 replace H:=Option.bind_eq_some_iff.mp H
 obtain ⟨t266,A50,H⟩:=H
 replace H:(impl_towerOf.l0 k t266 1)=some r:=H
 have A5:=AsZ.mk A50
 clear A50
 have H':=AsZ.mk H
 clear H
 go_enter Tryd.func44,Tryd.ntmps44
 go_wp2_with (first|((with_reducible refine gcl (f:=86) rfl ?_);refine goesL_ (some 9) rfl rfl Tryd.func86 (by kernel_rfl) rfl #[.int .i64 a1] rfl (by (try simp only [zA,zC,zN]);first|done|rfl|(simp only [zM,zL];rfl)) ?_;(with_reducible refine (strconv_Itoa.calls a1 t265 _ ?sideT A3.out).mono ?_);(case sideT=>exact tab_below HT.out (by repeat (first|(with_reducible first|exact HB.out|apply bwa|apply pbN|apply bw1|refine bws ?_ (AsZ.out (by assumption)))|exact HB.out)));rintro e w6 ⟨rfl,hb⟩;refine ⟨_,rfl,?_⟩;have n0_:=AsZ.mk (bwp (by repeat (first|(with_reducible first|exact HB.out|apply bwa|apply pbN|apply bw1)|exact HB.out)) hb);clear HB;have HB:=n0_;clear n0_;(try clear hb);(try clear hb2);(try clear hk);(try clear hi))|((with_reducible refine gcl (f:=85) rfl ?_);refine goesL_ (some 11) rfl rfl Tryd.func85 (by kernel_rfl) rfl #[.string (a0 ++ t265)] rfl (by (try simp only [zA,zC,zN]);first|done|rfl|(simp only [zM,zL];rfl)) ?_;(with_reducible refine (impl_SumOf.calls k (a0 ++ t265) t266 _ A5.out).mono ?_);rintro e w7 ⟨rfl,hb⟩;refine ⟨_,rfl,?_⟩;have n0_:=AsZ.mk (bwp (by repeat (first|(with_reducible first|exact HB.out|apply bwa|apply pbN|apply bw1)|exact HB.out)) hb);clear HB;have HB:=n0_;clear n0_;(try clear hb);(try clear hb2);(try clear hk);(try clear hi)))
 go_loopg [5,6] k (fun kq v5 v6 w' => ∃ (x5_1:Int) (x6_1:Int),v5 = .int .u32 x5_1∧v6 = .int .i64 x6_1∧AsZ (impl_towerOf.l0 kq x5_1 x6_1=some r)∧AsZ (kq≤k)∧AsZ (Below w.heap.size w w'))
 case atStart=>exact ⟨(t266),(1),(by first|rfl|(simp;done)|(simp [*];done)),(by first|rfl|(simp;done)|(simp [*];done)),H',⟨Nat.le_refl _⟩,⟨by repeat (first|(with_reducible first|exact HB.out|apply bwa|apply pbN|apply bw1)|exact HB.out)⟩⟩
 case round =>
  clear H'
  try clear p2
  try clear c4
  try clear c4b0
  try clear c4b1
  try clear c4b2
  obtain ⟨x5_1,x6_1,rfl,rfl,HA,HK1,HB⟩:=hrel
  cases gk with
  |zero=>exact absurd HA.out (by simp [impl_towerOf.l0])
  |succ k1 =>
   have H:=HA.out
   clear HA
   simp only [impl_towerOf.l0] at H
   have HC8:=AsZ.mk H
   clear H
   go_upto_region 2 with (fail)
   go_cut [18] (fun v18 wc => ∃ (kq:Nat) (x18_7:Bool),v18 = .bool x18_7∧AsZ (impl_towerOf.j1 kq x5_1 x6_1 x18_7=some r)∧AsZ (kq≤k1)∧AsZ (Below w.heap.size w wc))
   case first =>
    have H:=HC8.out
    clear HC8
    by_cases c9:(Go.bits .and .u32 x5_1 3)=0
    rotate_left
    · rw [if_neg c9] at H
      have c9b0:((Go.bits .and .u32 x5_1 3) == 0)=false:=beq_eq_false_iff_ne.mpr c9
      have c9b1:((Go.bits .and .u32 x5_1 3) != 0)=true:=bne_iff_ne.mpr c9
      (first|rw [c9b0]|(simp only [i64_w,i32_w];rw [c9b0])|rw [c9b1]|skip)
      have H':=AsZ.mk H
      clear H
      go_wp2
      go_meet
      case rel=>exact ⟨_,(false),(by first|rfl|(simp;done)|(simp [*];done)),H',⟨by have:=HK1.out;first|omega|exact Nat.le_refl _⟩,⟨by repeat (first|(with_reducible first|exact HB.out|apply bwa|apply pbN|apply bw1)|exact HB.out)⟩⟩
    rw [if_pos c9] at H
    have c9b0:((Go.bits .and .u32 x5_1 3) == 0)=true:=beq_iff_eq.mpr c9
    have c9b1:((Go.bits .and .u32 x5_1 3) != 0)=false:=bne_eq_false_iff_eq.mpr c9
    clear c9
    (first|rw [c9b0]|(simp only [i64_w,i32_w];rw [c9b0])|rw [c9b1]|skip)
    have H':=AsZ.mk H
    clear H
    go_wp2
    go_meet
    case rel=>exact ⟨_,(decide (x6_1 < 5)),(by first|rfl|(simp;done)|(simp [*];done)),H',⟨by have:=HK1.out;first|omega|exact Nat.le_refl _⟩,⟨by repeat (first|(with_reducible first|exact HB.out|apply bwa|apply pbN|apply bw1)|exact HB.out)⟩⟩
   case rest =>
    clear HC8
    try clear p2
    try clear c4
    try clear c4b0
    try clear c4b1
    try clear c4b2
    try clear c8
    try clear c9
    try clear c9b0
    try clear c9b1
    try clear p2
    obtain ⟨kq,x18_7,rfl,HA,HJ7,HB⟩:=hcut
    cases kq with
    |zero=>exact absurd HA.out (by simp [impl_towerOf.j1])
    |succ kj7 =>
     have H:=HA.out
     clear HA
     simp only [impl_towerOf.j1] at H
     by_cases c10:x18_7=true
     rotate_left
     · replace c10:=Bool.eq_false_iff.mpr c10
       subst c10
       have H1:(some x6_1)=some r:=by rw [if_neg (show ¬ (false=true) by decide)] at H;exact H
       clear H
       have H:=H1
       clear H1
       obtain rfl:=zI H
       go_wp2
       go_ret
       exact ⟨by first|rfl|(simp [errW_none,errW_some]<;>rfl)|(simp [*,errW_none,errW_some]<;>rfl),by repeat (first|(with_reducible first|exact HB.out|apply bwa|apply pbN|apply bw1)|exact HB.out)⟩
     subst c10
     have H1:(impl_towerOf.l0 kj7 (x5_1 / 4) (wrap64 (x6_1 + 1)))=some r:=by rw [if_pos rfl] at H;exact H
     clear H
     have H:=H1
     clear H1
     have H':=AsZ.mk H
     clear H
     go_wp2
     go_roundg kj7
     case measure=>have:=HK1.out;have:=HJ7.out;omega
     case rel=>exact ⟨(x5_1 / 4),(wrap64 (x6_1 + 1)),(by first|rfl|(simp;done)|(simp [*];done)),(by first|rfl|(simp;done)|(simp [*];done)),H',⟨by have:=HK1.out;have:=HJ7.out;omega⟩,⟨by repeat (first|(with_reducible first|exact HB.out|apply bwa|apply pbN|apply bw1)|exact HB.out)⟩⟩
/-- A state of type 26 at block g of W; what its slices lead to came in by w0. -/
def IsS26 (w0 W:World) (g:Nat) (f0:List Int) (f1:List (S77)):Prop := ∃ A0 c0,∃ A1 c1,W.heap[g]? = some (.cells #[.slice A0 f0.length c0,.slice A1 f1.length c1] 26 (0,0))∧w0.heap.size≤g∧Kd.C (Kd.int .i64) w0 A0 f0.length f0∧f0.length≤c0∧Kd.C k77 w0 A1 f1.length f1∧f1.length≤c1
theorem IsS26.grown {w0 W:World} {g:Nat} {f0:List Int} {f1:List (S77)} {W1:World} {row:Option Nat} (h:IsS26 w0 W g f0 f1) (hw:W.grownBy W1 row) (hne:some g ≠ row):IsS26 w0 W1 g f0 f1:=by
  obtain ⟨A0,c0,A1,c1,hb,hg,hr0,hl0,hr1,hl1⟩:=h
  exact ⟨A0,c0,A1,c1,blk_grown hb hw hne,hg,hr0,hl0,hr1,hl1⟩
theorem IsS26.own_neN {w0 W:World} {g:Nat} {f0:List Int} {f1:List (S77)} {α:Type} {d:Kd α} {e:Nat} {base:Nat} {ok:Nat→Prop} {v:Value} {xs:List α} (h:IsS26 w0 W g f0 f1) (ho:Kd.N d e W base ok v xs) (ht:e ≠ 26):some g ≠ v.ownBlock:=by
  obtain ⟨A0,c0,A1,c1,hb,hg,hr0,hl0,hr1,hl1⟩:=h
  exact Kd.N_ne ho hb ht
theorem IsS26.fresh {w0 W:World} {g:Nat} {f0:List Int} {f1:List (S77)} (h:IsS26 w0 W g f0 f1):∀ k,W.heap.size≤k→k ≠ g:=by
  obtain ⟨A0,c0,A1,c1,hb,hg,hr0,hl0,hr1,hl1⟩:=h
  exact Kd.freshB hb
theorem IsS26.kept {w0 W:World} {g:Nat} {f0:List Int} {f1:List (S77)} {W1:World} {S:Nat→Prop} (h:IsS26 w0 W g f0 f1) (hk:Kept W W1 S) (hne:¬ S g):IsS26 w0 W1 g f0 f1:=by
  obtain ⟨A0,c0,A1,c1,hb,hg,hr0,hl0,hr1,hl1⟩:=h
  exact ⟨A0,c0,A1,c1,blk_kept hb hk hne,hg,hr0,hl0,hr1,hl1⟩
theorem IsS26.below {w0 W:World} {g:Nat} {f0:List Int} {f1:List (S77)} {W1:World} (h:IsS26 w0 W g f0 f1) (hw:Below W.heap.size W W1):IsS26 w0 W1 g f0 f1:=h.grown (grown_of_below hw none) (by simp)
theorem IsS26.alloc {w0 W:World} {g:Nat} {f0:List Int} {f1:List (S77)} (h:IsS26 w0 W g f0 f1) (o:Obj):IsS26 w0 (W.alloc o) g f0 f1:=h.below (bwa (Below.refl _ _) o)
theorem IsS26.drewN {w0 W:World} {g:Nat} {f0:List Int} {f1:List (S77)} (h:IsS26 w0 W g f0 f1) (m:Nat):IsS26 w0 (W.drewN m) g f0 f1:=h
theorem IsS26.drew {w0 W:World} {g:Nat} {f0:List Int} {f1:List (S77)} (h:IsS26 w0 W g f0 f1):IsS26 w0 W.drew g f0 f1:=h
theorem IsS26.at_ {w0 W:World} {g:Nat} {f0:List Int} {f1:List (S77)} {w':World} {m:Nat} (hq:W.drewN m=w') (h:IsS26 w0 W g f0 f1):IsS26 w0 w' g f0 f1:=by subst hq;exact IsS26.drewN h m
theorem IsS26.apart {w0 W:World} {g:Nat} {f0:List Int} {f1:List (S77)} {α:Type} {d:Kd α} {e:Nat} {base:Nat} {ok:Nat→Prop} {v:Value} {xs:List α} (h:IsS26 w0 W g f0 f1) (ho:d.R e W base ok v xs) (ht:∀ q,q ∈ e :: d.E→q ≠ 26):d.R e W base (fun k=>ok k∧k ≠ g) v xs:=by
  obtain ⟨A0,c0,A1,c1,hb,hg,hr0,hl0,hr1,hl1⟩:=h
  exact Kd.R_types ho hb ht
theorem IsS26.own_ne {w0 W:World} {g:Nat} {f0:List Int} {f1:List (S77)} {α:Type} {d:Kd α} {e:Nat} {base:Nat} {ok:Nat→Prop} {v:Value} {xs:List α} (h:IsS26 w0 W g f0 f1) (ho:d.R e W base ok v xs) (ht:e ≠ 26):some g ≠ v.ownBlock:=by
  obtain ⟨A0,c0,A1,c1,hb,hg,hr0,hl0,hr1,hl1⟩:=h
  exact Kd.R_ne ho hb ht
theorem IsS26.apartQ {w0 W:World} {g:Nat} {f0:List Int} {f1:List (S77)} {α:Type} {d:Kd α} {e:Nat} {base:Nat} {ok:Nat→Prop} {v:Value} {xs:List α} (h:IsS26 w0 W g f0 f1) (ho:d.Q e W base ok v xs) (ht:∀ q,q ∈ e :: d.E→q ≠ 26):d.Q e W base (fun k=>ok k∧k ≠ g) v xs:=by
  obtain ⟨A0,c0,A1,c1,hb,hg,hr0,hl0,hr1,hl1⟩:=h
  exact Kd.Q_types ho hb ht
theorem IsS26.own_neQ {w0 W:World} {g:Nat} {f0:List Int} {f1:List (S77)} {α:Type} {d:Kd α} {e:Nat} {base:Nat} {ok:Nat→Prop} {v:Value} {xs:List α} (h:IsS26 w0 W g f0 f1) (ho:d.Q e W base ok v xs) (ht:e ≠ 26):some g ≠ v.ownBlock:=by
  obtain ⟨A0,c0,A1,c1,hb,hg,hr0,hl0,hr1,hl1⟩:=h
  exact Kd.Q_ne ho hb ht
theorem IsS26.apartB {w0 W:World} {g:Nat} {f0:List Int} {f1:List (S77)} {d:Kd Int} {e:Nat} {base:Nat} {ok:Nat→Prop} {v:Value} {xs:List Int} (h:IsS26 w0 W g f0 f1) (ho:Kd.B d e W base ok v xs) (ht:∀ q,q ∈ e :: d.E→q ≠ 26):Kd.B d e W base (fun k=>ok k∧k ≠ g) v xs:=by
  obtain ⟨A0,c0,A1,c1,hb,hg,hr0,hl0,hr1,hl1⟩:=h
  exact Kd.B_types ho hb ht
theorem IsS26.own_neB {w0 W:World} {g:Nat} {f0:List Int} {f1:List (S77)} {d:Kd Int} {e:Nat} {base:Nat} {ok:Nat→Prop} {v:Value} {xs:List Int} (h:IsS26 w0 W g f0 f1) (ho:Kd.B d e W base ok v xs) (ht:e ≠ 26):some g ≠ v.ownBlock:=by
  obtain ⟨A0,c0,A1,c1,hb,hg,hr0,hl0,hr1,hl1⟩:=h
  exact Kd.B_ne ho hb ht
theorem IsS26.apartS {w0 W:World} {g:Nat} {f0:List Int} {f1:List (S77)} {α:Type} {d:Kd α} {e:Nat} {base:Nat} {ok:Nat→Prop} {v:Value} {xs:List α} (h:IsS26 w0 W g f0 f1) (ho:d.S e W base ok v xs) (ht:∀ q,q ∈ e :: d.E→q ≠ 26):d.S e W base (fun k=>ok k∧k ≠ g) v xs:=by
  obtain ⟨A0,c0,A1,c1,hb,hg,hr0,hl0,hr1,hl1⟩:=h
  exact Kd.S_types ho hb ht
theorem IsS26.own_neS {w0 W:World} {g:Nat} {f0:List Int} {f1:List (S77)} {α:Type} {d:Kd α} {e:Nat} {base:Nat} {ok:Nat→Prop} {v:Value} {xs:List α} (h:IsS26 w0 W g f0 f1) (ho:d.S e W base ok v xs) (ht:e ≠ 26):some g ≠ v.ownBlock:=by
  obtain ⟨A0,c0,A1,c1,hb,hg,hr0,hl0,hr1,hl1⟩:=h
  exact Kd.S_ne ho hb ht
theorem IsS26.lt {w0 W:World} {g:Nat} {f0:List Int} {f1:List (S77)} (h:IsS26 w0 W g f0 f1):g < W.heap.size:=by
  obtain ⟨A0,c0,A1,c1,hb,hg,hr0,hl0,hr1,hl1⟩:=h
  exact blk_lt hb
theorem IsS26.ge {w0 W:World} {g:Nat} {f0:List Int} {f1:List (S77)} (h:IsS26 w0 W g f0 f1):w0.heap.size≤g:=by
  obtain ⟨A0,c0,A1,c1,hb,hg,hr0,hl0,hr1,hl1⟩:=h
  exact hg
theorem IsS26.ne_blk {w0 W:World} {g:Nat} {f0:List Int} {f1:List (S77)} {a:Nat} {cs:Array Value} {t:TypeId} {fr:Nat × Nat} (h:IsS26 w0 W g f0 f1) (hb2:W.heap[a]? = some (.cells cs t fr)) (ht:t ≠ 26):g ≠ a:=by
  obtain ⟨A0,c0,A1,c1,hb,hg,hr0,hl0,hr1,hl1⟩:=h
  rintro rfl
  rw [hb] at hb2
  injection hb2 with hb2
  injection hb2 with _ ht2
  exact ht ht2.symm
theorem IsS26.far {w0 W:World} {g:Nat} {f0:List Int} {f1:List (S77)} {p:Addr} (h:IsS26 w0 W g f0 f1) (hne:g ≠ p.block) (u:Value):IsS26 w0 (W.setCell p u) g f0 f1:=by
  obtain ⟨A0,c0,A1,c1,hb,hg,hr0,hl0,hr1,hl1⟩:=h
  exact ⟨A0,c0,A1,c1,blk_far hb hne u,hg,hr0,hl0,hr1,hl1⟩
theorem cellS26_0 {W:World} {g:Nat} {A0:Option Addr} {c0:Nat} {A1:Option Addr} {c1:Nat} {f0:List Int} {f1:List (S77)} (h:W.heap[g]? = some (.cells #[.slice A0 f0.length c0,.slice A1 f1.length c1] 26 (0,0))):W.cell? ⟨g,0,none⟩=some (.slice A0 f0.length c0):=(kc h 0).trans rfl
theorem IsS26.same_ {W:World} {g:Nat} {A0:Option Addr} {c0:Nat} {A1:Option Addr} {c1:Nat} {f0:List Int} {f1:List (S77)} {W0:World} {A0':Option Addr} {c0':Nat} {A1':Option Addr} {c1':Nat} (h:W0.heap[g]? = some (.cells #[.slice A0 f0.length c0,.slice A1 f1.length c1] 26 (0,0))) (k:KeepF W0 W g none) (h':W.heap[g]? = some (.cells #[.slice A0' f0.length c0',.slice A1' f1.length c1'] 26 (0,0))):A0'=A0∧c0'=c0∧A1'=A1∧c1'=c1:=by
  have e:=zI ((k.blk h).symm.trans h')
  simp only [Obj.cells.injEq,Array.mk.injEq,List.cons.injEq,Value.slice.injEq,and_true,true_and] at e
  simp_all
theorem cellS26_1 {W:World} {g:Nat} {A0:Option Addr} {c0:Nat} {A1:Option Addr} {c1:Nat} {f0:List Int} {f1:List (S77)} (h:W.heap[g]? = some (.cells #[.slice A0 f0.length c0,.slice A1 f1.length c1] 26 (0,0))):W.cell? ⟨g,1,none⟩=some (.slice A1 f1.length c1):=(kc h 1).trans rfl
theorem IsS26.new (w0 W:World) (A0:Option Addr) (c0:Nat) (A1:Option Addr) (c1:Nat) (f0:List Int) (f1:List (S77)) (hB:Below w0.heap.size w0 W) (hr0:Kd.C (Kd.int .i64) w0 A0 f0.length f0) (hl0:f0.length≤c0) (hr1:Kd.C k77 w0 A1 f1.length f1) (hl1:f1.length≤c1):IsS26 w0 (W.alloc (.cells #[.slice A0 f0.length c0,.slice A1 f1.length c1] 26)) W.heap.size f0 f1:=⟨A0,c0,A1,c1,by simpa using heap_alloc_new W _,hB.size,hr0,hl0,hr1,hl1⟩
def IsS26F (A0:Option Addr) (c0:Nat) (A1:Option Addr) (c1:Nat) (w0 W:World) (g:Nat) (f0:List Int) (f1:List (S77)):Prop:=W.heap[g]? = some (.cells #[.slice A0 f0.length c0,.slice A1 f1.length c1] 26 (0,0))∧w0.heap.size≤g∧Kd.C (Kd.int .i64) w0 A0 f0.length f0∧f0.length≤c0∧Kd.C k77 w0 A1 f1.length f1∧f1.length≤c1
theorem IsS26F.to {A0:Option Addr} {c0:Nat} {A1:Option Addr} {c1:Nat} {w0 W:World} {g:Nat} {f0:List Int} {f1:List (S77)} (h:IsS26F A0 c0 A1 c1 w0 W g f0 f1):IsS26 w0 W g f0 f1:=⟨A0,c0,A1,c1,h⟩
theorem IsS26F.below {A0:Option Addr} {c0:Nat} {A1:Option Addr} {c1:Nat} {w0 W:World} {g:Nat} {f0:List Int} {f1:List (S77)} {W1:World} (h:IsS26F A0 c0 A1 c1 w0 W g f0 f1) (hw:Below W.heap.size W W1):IsS26F A0 c0 A1 c1 w0 W1 g f0 f1:=⟨kb h.1 hw,h.2⟩
theorem IsS26F.alloc {A0:Option Addr} {c0:Nat} {A1:Option Addr} {c1:Nat} {w0 W:World} {g:Nat} {f0:List Int} {f1:List (S77)} (h:IsS26F A0 c0 A1 c1 w0 W g f0 f1) (o:Obj):IsS26F A0 c0 A1 c1 w0 (W.alloc o) g f0 f1:=h.below (bwa (Below.refl _ _) o)
theorem IsS26F.drewN {A0:Option Addr} {c0:Nat} {A1:Option Addr} {c1:Nat} {w0 W:World} {g:Nat} {f0:List Int} {f1:List (S77)} (h:IsS26F A0 c0 A1 c1 w0 W g f0 f1) (m:Nat):IsS26F A0 c0 A1 c1 w0 (W.drewN m) g f0 f1:=h
theorem IsS26F.drew {A0:Option Addr} {c0:Nat} {A1:Option Addr} {c1:Nat} {w0 W:World} {g:Nat} {f0:List Int} {f1:List (S77)} (h:IsS26F A0 c0 A1 c1 w0 W g f0 f1):IsS26F A0 c0 A1 c1 w0 W.drew g f0 f1:=h
theorem IsS26F.far {A0:Option Addr} {c0:Nat} {A1:Option Addr} {c1:Nat} {w0 W:World} {g:Nat} {f0:List Int} {f1:List (S77)} {p:Addr} (h:IsS26F A0 c0 A1 c1 w0 W g f0 f1) (hne:g ≠ p.block) (u:Value):IsS26F A0 c0 A1 c1 w0 (W.setCell p u) g f0 f1:=⟨blk_far h.1 hne u,h.2⟩
theorem IsS26F.ge {A0:Option Addr} {c0:Nat} {A1:Option Addr} {c1:Nat} {w0 W:World} {g:Nat} {f0:List Int} {f1:List (S77)} (h:IsS26F A0 c0 A1 c1 w0 W g f0 f1):w0.heap.size≤g:=h.2.1
theorem IsS26F.lt {A0:Option Addr} {c0:Nat} {A1:Option Addr} {c1:Nat} {w0 W:World} {g:Nat} {f0:List Int} {f1:List (S77)} (h:IsS26F A0 c0 A1 c1 w0 W g f0 f1):g < W.heap.size:=IsS26.lt h.to
theorem IsS26F.ex {A0:Option Addr} {c0:Nat} {A1:Option Addr} {c1:Nat} {w0 W:World} {g:Nat} {f0:List Int} {f1:List (S77)} (h:IsS26F A0 c0 A1 c1 w0 W g f0 f1):∃ B0,∃ d0,∃ B1,∃ d1,(B0=A0∧d0=c0∧B1=A1∧d1=c1)∧W.heap[g]? = some (.cells #[.slice B0 f0.length d0,.slice B1 f1.length d1] 26 (0,0))∧w0.heap.size≤g∧Kd.C (Kd.int .i64) w0 B0 f0.length f0∧f0.length≤d0∧Kd.C k77 w0 B1 f1.length f1∧f1.length≤d1:=⟨A0,c0,A1,c1,⟨rfl,rfl,rfl,rfl⟩,h⟩
/-! ### impl_Skip_next: function 41 -/
def impl_Skip_next.f (s0_0:List Int) (s0_1:List (S77)) (a1:Int) (a2:Int):Option (Int):=if a1=(-1) then (if 0≤a2 then (if a2 < (s0_0.length:Int) then (some (rd s0_0 a2)) else (none)) else (none)) else (if 0≤a1 then (if a1 < (s0_1.length:Int) then (if 0≤a2 then (if a2 < (((rd_T77 s0_1 a1).f1).length:Int) then (some (rd ((rd_T77 s0_1 a1).f1) a2)) else (none)) else (none)) else (none)) else (none))
set_option maxHeartbeats 8000000 in
set_option maxRecDepth 100000 in
theorem impl_Skip_next.calls (g:Nat) (s0_0:List Int) (s0_1:List (S77)) (a1:Int) (a2:Int) (r:Int) (w0 w:World) (hI:IsS26 w0 w g s0_0 s0_1) (hB:Below w0.heap.size w0 w) (h:impl_Skip_next.f s0_0 s0_1 a1 a2=some r) :
    Calls Tryd.prog 41 #[.pointer (some ⟨g,0,none⟩),.int .i64 a1,.int .i64 a2] w fun e w'=>e = .returned (.int .i64 r)∧Drawn0 w w':=by
 have HI0:=AsZ.mk hI
 have HK:=AsZ.mk (KeepBut.refl w g none)
 have HL:=AsZ.mk hB.size
 clear hI
 have HW0:=AsZ.mk hB.size
 have HB:=AsZ.mk hB
 clear hB
 have H:(if a1=(-1) then (if 0≤a2 then (if a2 < (s0_0.length:Int) then (some (rd s0_0 a2)) else (none)) else (none)) else (if 0≤a1 then (if a1 < (s0_1.length:Int) then (if 0≤a2 then (if a2 < (((rd_T77 s0_1 a1).f1).length:Int) then (some (rd ((rd_T77 s0_1 a1).f1) a2)) else (none)) else (none)) else (none)) else (none)))=some r:=h
 clear h
 by_cases c4:a1=(-1)
 · rw [if_pos c4] at H
   have c4b0:(a1 == (-1))=true:=beq_iff_eq.mpr c4
   have c4b1:(a1 != (-1))=false:=bne_eq_false_iff_eq.mpr c4
   clear c4
   by_cases c5:0≤a2
   rotate_left
   · rw [if_neg c5] at H
     exact absurd H (by simp)
   rw [if_pos c5] at H
   have c5b0:decide (0≤a2)=true:=zE c5
   clear c5
   by_cases c6:a2 < (s0_0.length:Int)
   rotate_left
   · rw [if_neg c6] at H
     exact absurd H (by simp)
   rw [if_pos c6] at H
   have c6b0:decide (a2 < (s0_0.length:Int))=true:=zE c6
   clear c6
   obtain rfl:=zI H
   obtain ⟨ASz7_0,cSz7_0,ASz7_1,cSz7_1,HGz7,hgz7,HSz7_0,HSCz7_0,HSz7_1,HSCz7_1⟩:=HI0.out
   have hcz7_0:=cellS26_0 HGz7
   have hcz7_1:=cellS26_1 HGz7
   clear HGz7 hgz7
   have p267:0≤(a2:Int):=zD (by first|(with_reducible assumption)|assumption)
   have q267:a2 < (s0_0.length:Int):=zD (by first|(with_reducible assumption)|assumption)
   obtain ⟨ad267,e267,hx267_0⟩:=Kd.at_int HSz7_0 a2 p267 q267
   cases e267
   replace hx267_0:=pcb HB.out hx267_0
   replace p267:=eq_true p267
   replace q267:=eq_true q267
   go_enter Tryd.func41,Tryd.ntmps41
   go_wp2
   go_ret
   exact ⟨by first|rfl|(simp;done)|(simp [*];done),by repeat (first|exact Drawn0.refl _|apply Drawn0.step)⟩
 rw [if_neg c4] at H
 have c4b0:(a1 == (-1))=false:=beq_eq_false_iff_ne.mpr c4
 have c4b1:(a1 != (-1))=true:=bne_iff_ne.mpr c4
 by_cases c8:0≤a1
 rotate_left
 · rw [if_neg c8] at H
   exact absurd H (by simp)
 rw [if_pos c8] at H
 have c8b0:decide (0≤a1)=true:=zE c8
 clear c8
 by_cases c9:a1 < (s0_1.length:Int)
 rotate_left
 · rw [if_neg c9] at H
   exact absurd H (by simp)
 rw [if_pos c9] at H
 have c9b0:decide (a1 < (s0_1.length:Int))=true:=zE c9
 clear c9
 by_cases c10:0≤a2
 rotate_left
 · rw [if_neg c10] at H
   exact absurd H (by simp)
 rw [if_pos c10] at H
 have c10b0:decide (0≤a2)=true:=zE c10
 clear c10
 by_cases c11:a2 < (((rd_T77 s0_1 a1).f1).length:Int)
 rotate_left
 · rw [if_neg c11] at H
   exact absurd H (by simp)
 rw [if_pos c11] at H
 have c11b0:decide (a2 < (((rd_T77 s0_1 a1).f1).length:Int))=true:=zE c11
 clear c11
 obtain rfl:=zI H
 obtain ⟨ASz12_0,cSz12_0,ASz12_1,cSz12_1,HGz12,hgz12,HSz12_0,HSCz12_0,HSz12_1,HSCz12_1⟩:=HI0.out
 have hcz12_0:=cellS26_0 HGz12
 have hcz12_1:=cellS26_1 HGz12
 clear HGz12 hgz12
 have p268:0≤(a1:Int):=zD (by first|(with_reducible assumption)|assumption)
 have q268:a1 < (s0_1.length:Int):=zD (by first|(with_reducible assumption)|assumption)
 obtain ⟨ad268,A268_4,c268_4,e268,hx268_0,hx268_1,hx268_2,hx268_3,hx268_4,hl268_4,hi268_4⟩:=at_T77 HSz12_1 a1 p268 q268
 cases e268
 replace hx268_0:=pcb HB.out hx268_0
 replace hx268_1:=pcb HB.out hx268_1
 replace hx268_2:=pcb HB.out hx268_2
 replace hx268_3:=pcb HB.out hx268_3
 replace hx268_4:=pcb HB.out hx268_4
 have HR268_4:=AsZ.mk hi268_4
 have HC268_4:=AsZ.mk hl268_4
 clear hi268_4 hl268_4
 replace p268:=eq_true p268
 replace q268:=eq_true q268
 have p269:0≤(a2:Int):=zD (by first|(with_reducible assumption)|assumption)
 have q269:a2 < (((rd_T77 s0_1 a1).f1).length:Int):=zD (by first|(with_reducible assumption)|assumption)
 obtain ⟨ad269,e269,hx269_0⟩:=Kd.at_int HR268_4.out a2 p269 q269
 cases e269
 replace hx269_0:=pcb HB.out hx269_0
 replace p269:=eq_true p269
 replace q269:=eq_true q269
 go_enter Tryd.func41,Tryd.ntmps41
 go_wp2
 go_ret
 exact ⟨by first|rfl|(simp;done)|(simp [*];done),by repeat (first|exact Drawn0.refl _|apply Drawn0.step)⟩
/-! ### cmp_Or_int: function 81 -/
def cmp_Or_int.l0:Nat→Int→List Int→Int→Int→Option (Int)
  |0,_,_,_,_=>none
  |k + 1,x3,x6,x7,x8=>if x8 < x7 then (if 0≤x8 then (if x8 < (x6.length:Int) then (if (rd x6 x8)=x3 then (cmp_Or_int.l0 k x3 x6 x7 (wrap64 (x8 + 1))) else (some (rd x6 x8))) else (none)) else (none)) else (some x3)
def cmp_Or_int.f (k:Nat) (l0:List Int):Option (Int):=cmp_Or_int.l0 k 0 l0 (l0.length:Int) 0
theorem cmp_Or_int.mono_l:∀ k,(∀ y0 y1 y2 y3,LeO (cmp_Or_int.l0 k y0 y1 y2 y3) (cmp_Or_int.l0 (k + 1) y0 y1 y2 y3))
  |0=>fun _ _ _ _ r h=>by simp [cmp_Or_int.l0] at h
  |k + 1=>by
    have ih0:=cmp_Or_int.mono_l k
    · intro y0 y1 y2 y3
      unfold cmp_Or_int.l0
      repeat' first
      |(with_reducible exact ih0 _ _ _ _)
      |(with_reducible exact LeO.refl _)
      |(with_reducible exact LeO.none _)
      |(with_reducible refine LeO.ite ?_ ?_)
      |(with_reducible refine LeO.bind ?_ (fun _=>?_))
      |exact ih0 _ _ _ _
      |exact LeO.none _
      |refine LeO.ite ?_ ?_
      |refine LeO.bind ?_ (fun _=>?_)
theorem cmp_Or_int.mono:∀ a0 k,LeO (cmp_Or_int.f k a0) (cmp_Or_int.f (k + 1) a0):=by
  intro a0 k
  have ih0:=cmp_Or_int.mono_l k
  unfold cmp_Or_int.f
  repeat' first
      |(with_reducible exact ih0 _ _ _ _)
      |(with_reducible exact LeO.refl _)
      |(with_reducible exact LeO.none _)
      |(with_reducible refine LeO.ite ?_ ?_)
      |(with_reducible refine LeO.bind ?_ (fun _=>?_))
      |exact ih0 _ _ _ _
      |exact LeO.none _
      |refine LeO.ite ?_ ?_
      |refine LeO.bind ?_ (fun _=>?_)
set_option maxHeartbeats 8000000 in
set_option maxRecDepth 100000 in
theorem cmp_Or_int.calls (k:Nat) (A0:Option Addr) (c0:Nat) (l0:List Int) (r:Int) (w:World) (hr0:Kd.C (Kd.int .i64) w A0 l0.length l0) (hc0:l0.length≤c0) (h:cmp_Or_int.f k l0=some r) :
    Calls Tryd.prog 81 #[.slice A0 l0.length c0] w fun e w'=>e = .returned (.int .i64 r)∧Drawn0 w w':=by
 have HR0:=AsZ.mk hr0
 have HC0:=AsZ.mk hc0
 clear hr0 hc0
 have H:(cmp_Or_int.l0 k 0 l0 (l0.length:Int) 0)=some r:=h
 clear h
 have H':=AsZ.mk H
 clear H
 go_enter Tryd.func81,Tryd.ntmps81
 go_wp2
 go_loopg [8] k (fun kq v8 w' => ∃ (x8_1:Int),v8 = .int .i64 x8_1∧AsZ (cmp_Or_int.l0 kq 0 l0 (l0.length:Int) x8_1=some r)∧AsZ (kq≤k)∧Drawn0 w w')
 case atStart=>exact ⟨(0),(by first|rfl|(simp;done)|(simp [*];done)),H',⟨Nat.le_refl _⟩,by repeat (first|exact Drawn0.refl _|apply Drawn0.step)⟩
 case round =>
  clear H'
  obtain ⟨x8_1,rfl,HA,HK1,⟨m1,rfl⟩⟩:=hrel
  cases gk with
  |zero=>exact absurd HA.out (by simp [cmp_Or_int.l0])
  |succ k1 =>
   have H:=HA.out
   clear HA
   simp only [cmp_Or_int.l0] at H
   by_cases c2:x8_1 < (l0.length:Int)
   rotate_left
   · rw [if_neg c2] at H
     have c2b0:decide (x8_1 < (l0.length:Int))=false:=decide_eq_false c2
     clear c2
     obtain rfl:=zI H
     go_wp2
     go_ret
     exact ⟨by first|rfl|(simp;done)|(simp [*];done),by repeat (first|exact Drawn0.refl _|apply Drawn0.step)⟩
   rw [if_pos c2] at H
   have c2b0:decide (x8_1 < (l0.length:Int))=true:=zE c2
   clear c2
   by_cases c3:0≤x8_1
   rotate_left
   · rw [if_neg c3] at H
     exact absurd H (by simp)
   rw [if_pos c3] at H
   have c3b0:decide (0≤x8_1)=true:=zE c3
   clear c3
   by_cases c4:x8_1 < (l0.length:Int)
   rotate_left
   · rw [if_neg c4] at H
     exact absurd H (by simp)
   rw [if_pos c4] at H
   have c4b0:decide (x8_1 < (l0.length:Int))=true:=zE c4
   clear c4
   by_cases c5:(rd l0 x8_1)=0
   rotate_left
   · rw [if_neg c5] at H
     have c5b0:((rd l0 x8_1) == 0)=false:=beq_eq_false_iff_ne.mpr c5
     have c5b1:((rd l0 x8_1) != 0)=true:=bne_iff_ne.mpr c5
     obtain rfl:=zI H
     have p270:0≤(x8_1:Int):=zD (by first|(with_reducible assumption)|assumption)
     have q270:x8_1 < (l0.length:Int):=zD (by first|(with_reducible assumption)|assumption)
     obtain ⟨ad270,e270,hx270_0⟩:=Kd.at_int HR0.out x8_1 p270 q270
     cases e270
     replace p270:=eq_true p270
     replace q270:=eq_true q270
     go_wp2
     go_ret
     exact ⟨by first|rfl|(simp;done)|(simp [*];done),by repeat (first|exact Drawn0.refl _|apply Drawn0.step)⟩
   rw [if_pos c5] at H
   have c5b0:((rd l0 x8_1) == 0)=true:=beq_iff_eq.mpr c5
   have c5b1:((rd l0 x8_1) != 0)=false:=bne_eq_false_iff_eq.mpr c5
   clear c5
   have H':=AsZ.mk H
   clear H
   have p270:0≤(x8_1:Int):=zD (by first|(with_reducible assumption)|assumption)
   have q270:x8_1 < (l0.length:Int):=zD (by first|(with_reducible assumption)|assumption)
   obtain ⟨ad270,e270,hx270_0⟩:=Kd.at_int HR0.out x8_1 p270 q270
   cases e270
   replace p270:=eq_true p270
   replace q270:=eq_true q270
   go_wp2
   go_roundg k1
   case measure=>have:=HK1.out;omega
   case rel=>exact ⟨(wrap64 (x8_1 + 1)),(by first|rfl|(simp;done)|(simp [*];done)),H',⟨by have:=HK1.out;omega⟩,by repeat (first|exact Drawn0.refl _|apply Drawn0.step)⟩
/-! ### cmp_isNaN_string: function 95 -/
def cmp_isNaN_string.f (a0:ByteArray):Option (Bool):=some (a0.toList != a0.toList)
set_option maxHeartbeats 8000000 in
set_option maxRecDepth 100000 in
theorem cmp_isNaN_string.calls (a0:ByteArray) (r:Bool) (w:World) (h:cmp_isNaN_string.f a0=some r) :
    Calls Tryd.prog 95 #[.string a0] w fun e w'=>e = .returned (.bool r)∧Drawn0 w w':=by
 have H:(some (a0.toList != a0.toList))=some r:=h
 clear h
 obtain rfl:=zI H
 go_enter Tryd.func95,Tryd.ntmps95
 go_wp2
 go_ret
 exact ⟨by first|rfl|(simp;done)|(simp [*];done),by repeat (first|exact Drawn0.refl _|apply Drawn0.step)⟩
/-! ### cmp_Compare_string: function 82 -/
def cmp_Compare_string.f (a0:ByteArray) (a1:ByteArray):Option (Int):=(cmp_isNaN_string.f a0).bind fun t271=>((cmp_isNaN_string.f a1).bind fun t272=>(if t271=true then (if t272=true then (some 0) else (some (-1))) else (if t272=true then (some 1) else (if (Op.bytesLess a0.toList a1.toList)=true then (some (-1)) else (if (Op.bytesLess a1.toList a0.toList)=true then (some 1) else (some 0))))))
set_option maxHeartbeats 8000000 in
set_option maxRecDepth 100000 in
theorem cmp_Compare_string.calls (a0:ByteArray) (a1:ByteArray) (r:Int) (w:World) (h:cmp_Compare_string.f a0 a1=some r) :
    Calls Tryd.prog 82 #[.string a0,.string a1] w fun e w'=>e = .returned (.int .i64 r)∧Drawn0 w w':=by
 have H:((cmp_isNaN_string.f a0).bind fun t271=>((cmp_isNaN_string.f a1).bind fun t272=>(if t271=true then (if t272=true then (some 0) else (some (-1))) else (if t272=true then (some 1) else (if (Op.bytesLess a0.toList a1.toList)=true then (some (-1)) else (if (Op.bytesLess a1.toList a0.toList)=true then (some 1) else (some 0)))))))=some r:=h
 clear h
 replace H:=Option.bind_eq_some_iff.mp H
 obtain ⟨t271,A30,H⟩:=H
 replace H:((cmp_isNaN_string.f a1).bind fun t272=>(if t271=true then (if t272=true then (some 0) else (some (-1))) else (if t272=true then (some 1) else (if (Op.bytesLess a0.toList a1.toList)=true then (some (-1)) else (if (Op.bytesLess a1.toList a0.toList)=true then (some 1) else (some 0))))))=some r:=H
 have A3:=AsZ.mk A30
 clear A30
 replace H:=Option.bind_eq_some_iff.mp H
 obtain ⟨t272,A40,H⟩:=H
 replace H:(if t271=true then (if t272=true then (some 0) else (some (-1))) else (if t272=true then (some 1) else (if (Op.bytesLess a0.toList a1.toList)=true then (some (-1)) else (if (Op.bytesLess a1.toList a0.toList)=true then (some 1) else (some 0)))))=some r:=H
 have A4:=AsZ.mk A40
 clear A40
 by_cases c5:t271=true
 · subst c5
   have H1:(if t272=true then (some 0) else (some (-1)))=some r:=by rw [if_pos rfl] at H;exact H
   clear H
   have H:=H1
   clear H1
   by_cases c6:t272=true
   · subst c6
     have H1:(some 0)=some r:=by rw [if_pos rfl] at H;exact H
     clear H
     have H:=H1
     clear H1
     obtain rfl:=zI H
     go_enter Tryd.func82,Tryd.ntmps82
     go_wp2_with (first|((with_reducible refine gcl (f:=95) rfl ?_);refine goesL_ (some 8) rfl rfl Tryd.func95 (by kernel_rfl) rfl #[.string a0] rfl (by (try simp only [zA,zC,zN]);first|done|rfl|(simp only [zM,zL];rfl)) ?_;(with_reducible refine (cmp_isNaN_string.calls a0 true _ A3.out).mono ?_);rintro e w' ⟨rfl,⟨nd,rfl⟩⟩;refine ⟨_,rfl,?_⟩)|((with_reducible refine gcl (f:=95) rfl ?_);refine goesL_ (some 10) rfl rfl Tryd.func95 (by kernel_rfl) rfl #[.string a1] rfl (by (try simp only [zA,zC,zN]);first|done|rfl|(simp only [zM,zL];rfl)) ?_;(with_reducible refine (cmp_isNaN_string.calls a1 true _ A4.out).mono ?_);rintro e w' ⟨rfl,⟨nd,rfl⟩⟩;refine ⟨_,rfl,?_⟩))
     go_ret
     exact ⟨by first|rfl|(simp;done)|(simp [*];done),by repeat (first|exact Drawn0.refl _|apply Drawn0.step)⟩
   replace c6:=Bool.eq_false_iff.mpr c6
   subst c6
   have H1:(some (-1))=some r:=by rw [if_neg (show ¬ (false=true) by decide)] at H;exact H
   clear H
   have H:=H1
   clear H1
   obtain rfl:=zI H
   go_enter Tryd.func82,Tryd.ntmps82
   go_wp2_with (first|((with_reducible refine gcl (f:=95) rfl ?_);refine goesL_ (some 8) rfl rfl Tryd.func95 (by kernel_rfl) rfl #[.string a0] rfl (by (try simp only [zA,zC,zN]);first|done|rfl|(simp only [zM,zL];rfl)) ?_;(with_reducible refine (cmp_isNaN_string.calls a0 true _ A3.out).mono ?_);rintro e w' ⟨rfl,⟨nd,rfl⟩⟩;refine ⟨_,rfl,?_⟩)|((with_reducible refine gcl (f:=95) rfl ?_);refine goesL_ (some 10) rfl rfl Tryd.func95 (by kernel_rfl) rfl #[.string a1] rfl (by (try simp only [zA,zC,zN]);first|done|rfl|(simp only [zM,zL];rfl)) ?_;(with_reducible refine (cmp_isNaN_string.calls a1 false _ A4.out).mono ?_);rintro e w' ⟨rfl,⟨nd,rfl⟩⟩;refine ⟨_,rfl,?_⟩))
   go_ret
   exact ⟨by first|rfl|(simp;done)|(simp [*];done),by repeat (first|exact Drawn0.refl _|apply Drawn0.step)⟩
 replace c5:=Bool.eq_false_iff.mpr c5
 subst c5
 have H1:(if t272=true then (some 1) else (if (Op.bytesLess a0.toList a1.toList)=true then (some (-1)) else (if (Op.bytesLess a1.toList a0.toList)=true then (some 1) else (some 0))))=some r:=by rw [if_neg (show ¬ (false=true) by decide)] at H;exact H
 clear H
 have H:=H1
 clear H1
 by_cases c7:t272=true
 · subst c7
   have H1:(some 1)=some r:=by rw [if_pos rfl] at H;exact H
   clear H
   have H:=H1
   clear H1
   obtain rfl:=zI H
   go_enter Tryd.func82,Tryd.ntmps82
   go_wp2_with (first|((with_reducible refine gcl (f:=95) rfl ?_);refine goesL_ (some 8) rfl rfl Tryd.func95 (by kernel_rfl) rfl #[.string a0] rfl (by (try simp only [zA,zC,zN]);first|done|rfl|(simp only [zM,zL];rfl)) ?_;(with_reducible refine (cmp_isNaN_string.calls a0 false _ A3.out).mono ?_);rintro e w' ⟨rfl,⟨nd,rfl⟩⟩;refine ⟨_,rfl,?_⟩)|((with_reducible refine gcl (f:=95) rfl ?_);refine goesL_ (some 10) rfl rfl Tryd.func95 (by kernel_rfl) rfl #[.string a1] rfl (by (try simp only [zA,zC,zN]);first|done|rfl|(simp only [zM,zL];rfl)) ?_;(with_reducible refine (cmp_isNaN_string.calls a1 true _ A4.out).mono ?_);rintro e w' ⟨rfl,⟨nd,rfl⟩⟩;refine ⟨_,rfl,?_⟩))
   go_ret
   exact ⟨by first|rfl|(simp;done)|(simp [*];done),by repeat (first|exact Drawn0.refl _|apply Drawn0.step)⟩
 replace c7:=Bool.eq_false_iff.mpr c7
 subst c7
 have H1:(if (Op.bytesLess a0.toList a1.toList)=true then (some (-1)) else (if (Op.bytesLess a1.toList a0.toList)=true then (some 1) else (some 0)))=some r:=by rw [if_neg (show ¬ (false=true) by decide)] at H;exact H
 clear H
 have H:=H1
 clear H1
 by_cases c8:(Op.bytesLess a0.toList a1.toList)=true
 · rw [if_pos c8] at H
   have c8b0:(Op.bytesLess a0.toList a1.toList)=true:=c8
   clear c8
   obtain rfl:=zI H
   go_enter Tryd.func82,Tryd.ntmps82
   go_wp2_with (first|((with_reducible refine gcl (f:=95) rfl ?_);refine goesL_ (some 8) rfl rfl Tryd.func95 (by kernel_rfl) rfl #[.string a0] rfl (by (try simp only [zA,zC,zN]);first|done|rfl|(simp only [zM,zL];rfl)) ?_;(with_reducible refine (cmp_isNaN_string.calls a0 false _ A3.out).mono ?_);rintro e w' ⟨rfl,⟨nd,rfl⟩⟩;refine ⟨_,rfl,?_⟩)|((with_reducible refine gcl (f:=95) rfl ?_);refine goesL_ (some 10) rfl rfl Tryd.func95 (by kernel_rfl) rfl #[.string a1] rfl (by (try simp only [zA,zC,zN]);first|done|rfl|(simp only [zM,zL];rfl)) ?_;(with_reducible refine (cmp_isNaN_string.calls a1 false _ A4.out).mono ?_);rintro e w' ⟨rfl,⟨nd,rfl⟩⟩;refine ⟨_,rfl,?_⟩))
   go_ret
   exact ⟨by first|rfl|(simp;done)|(simp [*];done),by repeat (first|exact Drawn0.refl _|apply Drawn0.step)⟩
 rw [if_neg c8] at H
 have c8b0:(Op.bytesLess a0.toList a1.toList)=false:=by simpa using c8
 clear c8
 by_cases c9:(Op.bytesLess a1.toList a0.toList)=true
 · rw [if_pos c9] at H
   have c9b0:(Op.bytesLess a1.toList a0.toList)=true:=c9
   clear c9
   obtain rfl:=zI H
   go_enter Tryd.func82,Tryd.ntmps82
   go_wp2_with (first|((with_reducible refine gcl (f:=95) rfl ?_);refine goesL_ (some 8) rfl rfl Tryd.func95 (by kernel_rfl) rfl #[.string a0] rfl (by (try simp only [zA,zC,zN]);first|done|rfl|(simp only [zM,zL];rfl)) ?_;(with_reducible refine (cmp_isNaN_string.calls a0 false _ A3.out).mono ?_);rintro e w' ⟨rfl,⟨nd,rfl⟩⟩;refine ⟨_,rfl,?_⟩)|((with_reducible refine gcl (f:=95) rfl ?_);refine goesL_ (some 10) rfl rfl Tryd.func95 (by kernel_rfl) rfl #[.string a1] rfl (by (try simp only [zA,zC,zN]);first|done|rfl|(simp only [zM,zL];rfl)) ?_;(with_reducible refine (cmp_isNaN_string.calls a1 false _ A4.out).mono ?_);rintro e w' ⟨rfl,⟨nd,rfl⟩⟩;refine ⟨_,rfl,?_⟩))
   go_ret
   exact ⟨by first|rfl|(simp;done)|(simp [*];done),by repeat (first|exact Drawn0.refl _|apply Drawn0.step)⟩
 rw [if_neg c9] at H
 have c9b0:(Op.bytesLess a1.toList a0.toList)=false:=by simpa using c9
 clear c9
 obtain rfl:=zI H
 go_enter Tryd.func82,Tryd.ntmps82
 go_wp2_with (first|((with_reducible refine gcl (f:=95) rfl ?_);refine goesL_ (some 8) rfl rfl Tryd.func95 (by kernel_rfl) rfl #[.string a0] rfl (by (try simp only [zA,zC,zN]);first|done|rfl|(simp only [zM,zL];rfl)) ?_;(with_reducible refine (cmp_isNaN_string.calls a0 false _ A3.out).mono ?_);rintro e w' ⟨rfl,⟨nd,rfl⟩⟩;refine ⟨_,rfl,?_⟩)|((with_reducible refine gcl (f:=95) rfl ?_);refine goesL_ (some 10) rfl rfl Tryd.func95 (by kernel_rfl) rfl #[.string a1] rfl (by (try simp only [zA,zC,zN]);first|done|rfl|(simp only [zM,zL];rfl)) ?_;(with_reducible refine (cmp_isNaN_string.calls a1 false _ A4.out).mono ?_);rintro e w' ⟨rfl,⟨nd,rfl⟩⟩;refine ⟨_,rfl,?_⟩))
 go_ret
 exact ⟨by first|rfl|(simp;done)|(simp [*];done),by repeat (first|exact Drawn0.refl _|apply Drawn0.step)⟩
/-! ### cmp_isNaN_int: function 96 -/
def cmp_isNaN_int.f (a0:Int):Option (Bool):=some (a0 != a0)
set_option maxHeartbeats 8000000 in
set_option maxRecDepth 100000 in
theorem cmp_isNaN_int.calls (a0:Int) (r:Bool) (w:World) (h:cmp_isNaN_int.f a0=some r) :
    Calls Tryd.prog 96 #[.int .i64 a0] w fun e w'=>e = .returned (.bool r)∧Drawn0 w w':=by
 have H:(some (a0 != a0))=some r:=h
 clear h
 obtain rfl:=zI H
 go_enter Tryd.func96,Tryd.ntmps96
 go_wp2
 go_ret
 exact ⟨by first|rfl|(simp;done)|(simp [*];done),by repeat (first|exact Drawn0.refl _|apply Drawn0.step)⟩
/-! ### cmp_Compare_int: function 83 -/
def cmp_Compare_int.f (a0:Int) (a1:Int):Option (Int):=(cmp_isNaN_int.f a0).bind fun t273=>((cmp_isNaN_int.f a1).bind fun t274=>(if t273=true then (if t274=true then (some 0) else (some (-1))) else (if t274=true then (some 1) else (if a0 < a1 then (some (-1)) else (if a0 > a1 then (some 1) else (some 0))))))
set_option maxHeartbeats 8000000 in
set_option maxRecDepth 100000 in
theorem cmp_Compare_int.calls (a0:Int) (a1:Int) (r:Int) (w:World) (h:cmp_Compare_int.f a0 a1=some r) :
    Calls Tryd.prog 83 #[.int .i64 a0,.int .i64 a1] w fun e w'=>e = .returned (.int .i64 r)∧Drawn0 w w':=by
 have H:((cmp_isNaN_int.f a0).bind fun t273=>((cmp_isNaN_int.f a1).bind fun t274=>(if t273=true then (if t274=true then (some 0) else (some (-1))) else (if t274=true then (some 1) else (if a0 < a1 then (some (-1)) else (if a0 > a1 then (some 1) else (some 0)))))))=some r:=h
 clear h
 replace H:=Option.bind_eq_some_iff.mp H
 obtain ⟨t273,A30,H⟩:=H
 replace H:((cmp_isNaN_int.f a1).bind fun t274=>(if t273=true then (if t274=true then (some 0) else (some (-1))) else (if t274=true then (some 1) else (if a0 < a1 then (some (-1)) else (if a0 > a1 then (some 1) else (some 0))))))=some r:=H
 have A3:=AsZ.mk A30
 clear A30
 replace H:=Option.bind_eq_some_iff.mp H
 obtain ⟨t274,A40,H⟩:=H
 replace H:(if t273=true then (if t274=true then (some 0) else (some (-1))) else (if t274=true then (some 1) else (if a0 < a1 then (some (-1)) else (if a0 > a1 then (some 1) else (some 0)))))=some r:=H
 have A4:=AsZ.mk A40
 clear A40
 by_cases c5:t273=true
 · subst c5
   have H1:(if t274=true then (some 0) else (some (-1)))=some r:=by rw [if_pos rfl] at H;exact H
   clear H
   have H:=H1
   clear H1
   by_cases c6:t274=true
   · subst c6
     have H1:(some 0)=some r:=by rw [if_pos rfl] at H;exact H
     clear H
     have H:=H1
     clear H1
     obtain rfl:=zI H
     go_enter Tryd.func83,Tryd.ntmps83
     go_wp2_with (first|((with_reducible refine gcl (f:=96) rfl ?_);refine goesL_ (some 8) rfl rfl Tryd.func96 (by kernel_rfl) rfl #[.int .i64 a0] rfl (by (try simp only [zA,zC,zN]);first|done|rfl|(simp only [zM,zL];rfl)) ?_;(with_reducible refine (cmp_isNaN_int.calls a0 true _ A3.out).mono ?_);rintro e w' ⟨rfl,⟨nd,rfl⟩⟩;refine ⟨_,rfl,?_⟩)|((with_reducible refine gcl (f:=96) rfl ?_);refine goesL_ (some 10) rfl rfl Tryd.func96 (by kernel_rfl) rfl #[.int .i64 a1] rfl (by (try simp only [zA,zC,zN]);first|done|rfl|(simp only [zM,zL];rfl)) ?_;(with_reducible refine (cmp_isNaN_int.calls a1 true _ A4.out).mono ?_);rintro e w' ⟨rfl,⟨nd,rfl⟩⟩;refine ⟨_,rfl,?_⟩))
     go_ret
     exact ⟨by first|rfl|(simp;done)|(simp [*];done),by repeat (first|exact Drawn0.refl _|apply Drawn0.step)⟩
   replace c6:=Bool.eq_false_iff.mpr c6
   subst c6
   have H1:(some (-1))=some r:=by rw [if_neg (show ¬ (false=true) by decide)] at H;exact H
   clear H
   have H:=H1
   clear H1
   obtain rfl:=zI H
   go_enter Tryd.func83,Tryd.ntmps83
   go_wp2_with (first|((with_reducible refine gcl (f:=96) rfl ?_);refine goesL_ (some 8) rfl rfl Tryd.func96 (by kernel_rfl) rfl #[.int .i64 a0] rfl (by (try simp only [zA,zC,zN]);first|done|rfl|(simp only [zM,zL];rfl)) ?_;(with_reducible refine (cmp_isNaN_int.calls a0 true _ A3.out).mono ?_);rintro e w' ⟨rfl,⟨nd,rfl⟩⟩;refine ⟨_,rfl,?_⟩)|((with_reducible refine gcl (f:=96) rfl ?_);refine goesL_ (some 10) rfl rfl Tryd.func96 (by kernel_rfl) rfl #[.int .i64 a1] rfl (by (try simp only [zA,zC,zN]);first|done|rfl|(simp only [zM,zL];rfl)) ?_;(with_reducible refine (cmp_isNaN_int.calls a1 false _ A4.out).mono ?_);rintro e w' ⟨rfl,⟨nd,rfl⟩⟩;refine ⟨_,rfl,?_⟩))
   go_ret
   exact ⟨by first|rfl|(simp;done)|(simp [*];done),by repeat (first|exact Drawn0.refl _|apply Drawn0.step)⟩
 replace c5:=Bool.eq_false_iff.mpr c5
 subst c5
 have H1:(if t274=true then (some 1) else (if a0 < a1 then (some (-1)) else (if a0 > a1 then (some 1) else (some 0))))=some r:=by rw [if_neg (show ¬ (false=true) by decide)] at H;exact H
 clear H
 have H:=H1
 clear H1
 by_cases c7:t274=true
 · subst c7
   have H1:(some 1)=some r:=by rw [if_pos rfl] at H;exact H
   clear H
   have H:=H1
   clear H1
   obtain rfl:=zI H
   go_enter Tryd.func83,Tryd.ntmps83
   go_wp2_with (first|((with_reducible refine gcl (f:=96) rfl ?_);refine goesL_ (some 8) rfl rfl Tryd.func96 (by kernel_rfl) rfl #[.int .i64 a0] rfl (by (try simp only [zA,zC,zN]);first|done|rfl|(simp only [zM,zL];rfl)) ?_;(with_reducible refine (cmp_isNaN_int.calls a0 false _ A3.out).mono ?_);rintro e w' ⟨rfl,⟨nd,rfl⟩⟩;refine ⟨_,rfl,?_⟩)|((with_reducible refine gcl (f:=96) rfl ?_);refine goesL_ (some 10) rfl rfl Tryd.func96 (by kernel_rfl) rfl #[.int .i64 a1] rfl (by (try simp only [zA,zC,zN]);first|done|rfl|(simp only [zM,zL];rfl)) ?_;(with_reducible refine (cmp_isNaN_int.calls a1 true _ A4.out).mono ?_);rintro e w' ⟨rfl,⟨nd,rfl⟩⟩;refine ⟨_,rfl,?_⟩))
   go_ret
   exact ⟨by first|rfl|(simp;done)|(simp [*];done),by repeat (first|exact Drawn0.refl _|apply Drawn0.step)⟩
 replace c7:=Bool.eq_false_iff.mpr c7
 subst c7
 have H1:(if a0 < a1 then (some (-1)) else (if a0 > a1 then (some 1) else (some 0)))=some r:=by rw [if_neg (show ¬ (false=true) by decide)] at H;exact H
 clear H
 have H:=H1
 clear H1
 by_cases c8:a0 < a1
 · rw [if_pos c8] at H
   have c8b0:decide (a0 < a1)=true:=zE c8
   clear c8
   obtain rfl:=zI H
   go_enter Tryd.func83,Tryd.ntmps83
   go_wp2_with (first|((with_reducible refine gcl (f:=96) rfl ?_);refine goesL_ (some 8) rfl rfl Tryd.func96 (by kernel_rfl) rfl #[.int .i64 a0] rfl (by (try simp only [zA,zC,zN]);first|done|rfl|(simp only [zM,zL];rfl)) ?_;(with_reducible refine (cmp_isNaN_int.calls a0 false _ A3.out).mono ?_);rintro e w' ⟨rfl,⟨nd,rfl⟩⟩;refine ⟨_,rfl,?_⟩)|((with_reducible refine gcl (f:=96) rfl ?_);refine goesL_ (some 10) rfl rfl Tryd.func96 (by kernel_rfl) rfl #[.int .i64 a1] rfl (by (try simp only [zA,zC,zN]);first|done|rfl|(simp only [zM,zL];rfl)) ?_;(with_reducible refine (cmp_isNaN_int.calls a1 false _ A4.out).mono ?_);rintro e w' ⟨rfl,⟨nd,rfl⟩⟩;refine ⟨_,rfl,?_⟩))
   go_ret
   exact ⟨by first|rfl|(simp;done)|(simp [*];done),by repeat (first|exact Drawn0.refl _|apply Drawn0.step)⟩
 rw [if_neg c8] at H
 have c8b0:decide (a0 < a1)=false:=decide_eq_false c8
 clear c8
 by_cases c9:a0 > a1
 · rw [if_pos c9] at H
   have c9b0:decide (a1 < a0)=true:=zE c9
   clear c9
   obtain rfl:=zI H
   go_enter Tryd.func83,Tryd.ntmps83
   go_wp2_with (first|((with_reducible refine gcl (f:=96) rfl ?_);refine goesL_ (some 8) rfl rfl Tryd.func96 (by kernel_rfl) rfl #[.int .i64 a0] rfl (by (try simp only [zA,zC,zN]);first|done|rfl|(simp only [zM,zL];rfl)) ?_;(with_reducible refine (cmp_isNaN_int.calls a0 false _ A3.out).mono ?_);rintro e w' ⟨rfl,⟨nd,rfl⟩⟩;refine ⟨_,rfl,?_⟩)|((with_reducible refine gcl (f:=96) rfl ?_);refine goesL_ (some 10) rfl rfl Tryd.func96 (by kernel_rfl) rfl #[.int .i64 a1] rfl (by (try simp only [zA,zC,zN]);first|done|rfl|(simp only [zM,zL];rfl)) ?_;(with_reducible refine (cmp_isNaN_int.calls a1 false _ A4.out).mono ?_);rintro e w' ⟨rfl,⟨nd,rfl⟩⟩;refine ⟨_,rfl,?_⟩))
   go_ret
   exact ⟨by first|rfl|(simp;done)|(simp [*];done),by repeat (first|exact Drawn0.refl _|apply Drawn0.step)⟩
 rw [if_neg c9] at H
 have c9b0:decide (a1 < a0)=false:=decide_eq_false c9
 clear c9
 obtain rfl:=zI H
 go_enter Tryd.func83,Tryd.ntmps83
 go_wp2_with (first|((with_reducible refine gcl (f:=96) rfl ?_);refine goesL_ (some 8) rfl rfl Tryd.func96 (by kernel_rfl) rfl #[.int .i64 a0] rfl (by (try simp only [zA,zC,zN]);first|done|rfl|(simp only [zM,zL];rfl)) ?_;(with_reducible refine (cmp_isNaN_int.calls a0 false _ A3.out).mono ?_);rintro e w' ⟨rfl,⟨nd,rfl⟩⟩;refine ⟨_,rfl,?_⟩)|((with_reducible refine gcl (f:=96) rfl ?_);refine goesL_ (some 10) rfl rfl Tryd.func96 (by kernel_rfl) rfl #[.int .i64 a1] rfl (by (try simp only [zA,zC,zN]);first|done|rfl|(simp only [zM,zL];rfl)) ?_;(with_reducible refine (cmp_isNaN_int.calls a1 false _ A4.out).mono ?_);rintro e w' ⟨rfl,⟨nd,rfl⟩⟩;refine ⟨_,rfl,?_⟩))
 go_ret
 exact ⟨by first|rfl|(simp;done)|(simp [*];done),by repeat (first|exact Drawn0.refl _|apply Drawn0.step)⟩
/-! ### impl_itemOrder: function 42 -/
def impl_itemOrder.f (k:Nat) (a0_0:ByteArray) (a0_1:Int) (a0_2:Int) (a0_3:ByteArray) (a1_0:ByteArray) (a1_1:Int) (a1_2:Int) (a1_3:ByteArray):Option (Int):=(cmp_Compare_string.f a0_0 a1_0).bind fun t277=>((cmp_Compare_int.f a1_1 a0_1).bind fun t278=>((cmp_Or_int.f k (([t277,t278]:List Int))).bind fun t282=>(some t282)))
theorem impl_itemOrder.mono:∀ a0 a1 a2 a3 a4 a5 a6 a7 k,LeO (impl_itemOrder.f k a0 a1 a2 a3 a4 a5 a6 a7) (impl_itemOrder.f (k + 1) a0 a1 a2 a3 a4 a5 a6 a7):=by
  intro a0 a1 a2 a3 a4 a5 a6 a7 k
  unfold impl_itemOrder.f
  repeat' first
      |(with_reducible exact cmp_Or_int.mono _ _)
      |(with_reducible exact LeO.refl _)
      |(with_reducible exact LeO.none _)
      |(with_reducible refine LeO.ite ?_ ?_)
      |(with_reducible refine LeO.bind ?_ (fun _=>?_))
      |exact cmp_Or_int.mono _ _
      |exact LeO.none _
      |refine LeO.ite ?_ ?_
      |refine LeO.bind ?_ (fun _=>?_)
def impl_itemOrder.T1:Bool × List (List Nat × List Nat):=(true,[([],[]),([0],[0]),([],[]),([2],[2]),([1,3],[1,3]),([],[]),([5],[5]),([],[]),([7],[7]),([6,8,4],[6,8]),([4,9],[4,9]),([10,9],[10]),([11,11,0,1,2,3,4,5,6,7,8,9,10,11],[11])])
def impl_itemOrder.B1:List Nat:=[0,1,0,4,15,0,32,0,128,511,1023,2047,4095]
theorem impl_itemOrder.tab1:rtab .any (opsOf Tryd.f42 1)=impl_itemOrder.T1:=by kernel_rfl
theorem impl_itemOrder.bits1:waitsOk impl_itemOrder.T1.2 impl_itemOrder.B1=true:=by kernel_rfl
set_option maxHeartbeats 8000000 in
set_option maxRecDepth 100000 in
theorem impl_itemOrder.calls (k:Nat) (a0_0:ByteArray) (a0_1:Int) (a0_2:Int) (a0_3:ByteArray) (a1_0:ByteArray) (a1_1:Int) (a1_2:Int) (a1_3:ByteArray) (r:Int) (w:World) (h:impl_itemOrder.f k a0_0 a0_1 a0_2 a0_3 a1_0 a1_1 a1_2 a1_3=some r) :
    Calls Tryd.prog 42 #[.agg #[.string a0_0,.int .i64 a0_1,.int .i64 a0_2,.string a0_3],.agg #[.string a1_0,.int .i64 a1_1,.int .i64 a1_2,.string a1_3]] w fun e w'=>e = .returned (.int .i64 r)∧Below w.heap.size w w':=by
 have hu28:=Tryd.underlying28
 have HB:=AsZ.mk (Below.refl w.heap.size w)
 have H:((cmp_Compare_string.f a0_0 a1_0).bind fun t277=>((cmp_Compare_int.f a1_1 a0_1).bind fun t278=>((cmp_Or_int.f k (([t277,t278]:List Int))).bind fun t282=>(some t282))))=some r:=h
 clear h
 replace H:=Option.bind_eq_some_iff.mp H
 obtain ⟨t277,A30,H⟩:=H
 replace H:((cmp_Compare_int.f a1_1 a0_1).bind fun t278=>((cmp_Or_int.f k (([t277,t278]:List Int))).bind fun t282=>(some t282)))=some r:=H
 have A3:=AsZ.mk A30
 clear A30
 replace H:=Option.bind_eq_some_iff.mp H
 obtain ⟨t278,A40,H⟩:=H
 replace H:((cmp_Or_int.f k (([t277,t278]:List Int))).bind fun t282=>(some t282))=some r:=H
 have A4:=AsZ.mk A40
 clear A40
 obtain ⟨y279,hy279⟩:∃ y_:List Int,y_=(([t277,t278]:List Int)):=⟨_,rfl⟩
 replace H:((cmp_Or_int.f k y279).bind fun t282=>(some t282))=some r:=by first|(rw [hy279];with_reducible exact H)|(have H2_:=(Option.bind_some _ _).symm.trans H;rw [hy279];with_reducible exact H2_)|(have H2_:=(Option.bind_some _ _).symm.trans H;with_reducible exact H2_)|with_reducible exact H|(rw [hy279];exact H)|exact H
 have Ny279:=AsZ.mk hy279
 clear hy279
 replace H:=Option.bind_eq_some_iff.mp H
 obtain ⟨t282,A50,H⟩:=H
 replace H:(some t282)=some r:=H
 have A5:=AsZ.mk A50
 clear A50
 obtain rfl:=zI H
 go_enter Tryd.func42,Tryd.ntmps42
 try go_wp2_with (first|((with_reducible refine gate_dst (N:=2) rfl ?_);refine box_event ?hg (N:=2) ?hd (cs:=#[.string a0_0,.int .i64 a0_1,.int .i64 a0_2,.string a0_3]) (t:=28) ?hr ?_;(case hd=>rfl);(case hg=>rfl);(case hr=>first|(go_simp;done)|(go_simp;rfl));intro gb275 hg w6 hbox hb;have n0_:=AsZ.mk (bwp (by repeat (first|(with_reducible first|exact HB.out|apply bwa|apply pbN|apply bw1)|exact HB.out)) hb);have n1_:=AsZ.mk (hbox);have n2_:=AsZ.mk ((by rw [hg];exact (bwz (by repeat (first|(with_reducible first|exact HB.out|apply bwa|apply pbN|apply bw1)|exact HB.out))):w.heap.size≤gb275));have n3_:=AsZ.mk ((by rw [hg];exact (bwz (by repeat (first|(with_reducible first|exact HB.out|apply bwa|apply pbN|apply bw1)|exact HB.out))):w.heap.size≤gb275));clear HB;have HB:=n0_;have BK275:=n1_;have GW275:=n2_;have GE275:=n3_;clear n0_ n1_ n2_ n3_;clear hb hbox hg)|((with_reducible refine gate_dst (N:=3) rfl ?_);refine box_event ?hg (N:=3) ?hd (cs:=#[.string a1_0,.int .i64 a1_1,.int .i64 a1_2,.string a1_3]) (t:=28) ?hr ?_;(case hd=>rfl);(case hg=>rfl);(case hr=>first|(go_simp;done)|(go_simp;rfl));intro gb276 hg w7 hbox hb;have n0_:=AsZ.mk (kb (g:=gb275) (o := .cells #[.string a0_0,.int .i64 a0_1,.int .i64 a0_2,.string a0_3] 28 (0,0)) (by (with_reducible repeat (first|refine kdN ?_ _|refine kd ?_|refine ka ?_ _));exact BK275.out) hb);have n1_:=AsZ.mk (bwp (by repeat (first|(with_reducible first|exact HB.out|apply bwa|apply pbN|apply bw1|refine bws ?_ GE275.out)|exact HB.out)) hb);have n2_:=AsZ.mk (hbox);have n3_:=AsZ.mk ((by rw [hg];exact (bwz (by repeat (first|(with_reducible first|exact HB.out|apply bwa|apply pbN|apply bw1|refine bws ?_ GE275.out)|exact HB.out))):w.heap.size≤gb276));have n4_:=AsZ.mk ((by rw [hg];exact (bwz (by repeat (first|(with_reducible first|exact HB.out|apply bwa|apply pbN|apply bw1|refine bws ?_ GE275.out)|exact HB.out))):w.heap.size≤gb276));have n5_:=AsZ.mk ((by rw [hg];exact Nat.ne_of_lt (blk_lt (g:=gb275) (o := .cells #[.string a0_0,.int .i64 a0_1,.int .i64 a0_2,.string a0_3] 28 (0,0)) (by (with_reducible repeat (first|refine kdN ?_ _|refine kd ?_|refine ka ?_ _));exact BK275.out)):gb275 ≠ gb276));have n6_:=AsZ.mk ((by rw [hg];exact Nat.ne_of_gt (blk_lt (g:=gb275) (o := .cells #[.string a0_0,.int .i64 a0_1,.int .i64 a0_2,.string a0_3] 28 (0,0)) (by (with_reducible repeat (first|refine kdN ?_ _|refine kd ?_|refine ka ?_ _));exact BK275.out)):gb276 ≠ gb275));clear BK275;clear HB;have BK275:=n0_;have HB:=n1_;have BK276:=n2_;have GW276:=n3_;have GE276:=n4_;have NB275_276:=n5_;have NB276_275:=n6_;clear n0_ n1_ n2_ n3_ n4_ n5_ n6_;clear hb hbox hg))
 have n0_:=AsZ.mk (kd BK275.out)
 have n1_:=AsZ.mk (kd BK276.out)
 have n2_:=AsZ.mk (bw1 HB.out)
 clear BK275 BK276 HB
 have BK275:=n0_
 have BK276:=n1_
 have HB:=n2_
 clear n0_ n1_ n2_
 refine start_ (n:=13) (S:=fun w'=>w'.cell? ⟨gb275,0,none⟩=some (.string a0_0)∧w'.cell? ⟨gb275,1,none⟩=some (.int .i64 a0_1)∧w'.cell? ⟨gb275,2,none⟩=some (.int .i64 a0_2)∧w'.cell? ⟨gb275,3,none⟩=some (.string a0_3)∧w'.cell? ⟨gb276,0,none⟩=some (.string a1_0)∧w'.cell? ⟨gb276,1,none⟩=some (.int .i64 a1_1)∧w'.cell? ⟨gb276,2,none⟩=some (.int .i64 a1_2)∧w'.cell? ⟨gb276,3,none⟩=some (.string a1_3)) (ds:=[]) (b_ 0 13) (by kernel_rfl) rfl rfl ⟨(kc BK275.out 0).trans rfl,(kc BK275.out 1).trans rfl,(kc BK275.out 2).trans rfl,(kc BK275.out 3).trans rfl,(kc BK276.out 0).trans rfl,(kc BK276.out 1).trans rfl,(kc BK276.out 2).trans rfl,(kc BK276.out 3).trans rfl⟩ (fun hHeld=>?_);refine with_tabW impl_itemOrder.tab1 impl_itemOrder.bits1 (fun HT_ HW_=>?_)
 generalize w7.drew=w8 at BK275 BK276 HB hHeld ⊢
 refine pure_ (i:=0) (N:=some 5) (v:=?_) (a':=?_) (b_ 1 12) rfl rfl (anO HT_.out (by kernel_rfl)) (fun _ _ _ h=>h) (Or.inl ⟨by rfl,?_⟩) ?_ ?_
 rotate_left
 · intro w'
   go_simp
   with_reducible rfl
 rotate_left
 · simp only [Act.put,zS,zT,zU,i64_w,i32_w]
   rfl
 refine pure_ (i:=2) (N:=some 7) (v:=?_) (a':=?_) #[true,false,true,false,false,false,false,false,false,false,false,false,false] rfl rfl (anO HT_.out (by kernel_rfl)) (fun _ _ _ h=>h) (Or.inl ⟨by rfl,?_⟩) ?_ ?_
 rotate_left
 · intro w'
   go_simp
   with_reducible rfl
 rotate_left
 · simp only [Act.put,zS,zT,zU,i64_w,i32_w]
   rfl
 refine pure_ (i:=5) (N:=some 10) (v:=?_) (a':=?_) #[true,false,true,false,false,true,false,false,false,false,false,false,false] rfl rfl (anO HT_.out (by kernel_rfl)) (fun _ _ _ h=>h) (Or.inl ⟨by rfl,?_⟩) ?_ ?_
 rotate_left
 · intro w'
   go_simp
   with_reducible rfl
 rotate_left
 · simp only [Act.put,zS,zT,zU,i64_w,i32_w]
   rfl
 refine pure_ (i:=7) (N:=some 12) (v:=?_) (a':=?_) #[true,false,true,false,false,true,false,true,false,false,false,false,false] rfl rfl (anO HT_.out (by kernel_rfl)) (fun _ _ _ h=>h) (Or.inl ⟨by rfl,?_⟩) ?_ ?_
 rotate_left
 · intro w'
   go_simp
   with_reducible rfl
 rotate_left
 · simp only [Act.put,zS,zT,zU,i64_w,i32_w]
   rfl
 refine take_ (i:=1) (N:=some 6) (v:=?_) (a':=?_) #[true,true,true,false,false,true,false,true,false,false,false,false,false] rfl rfl (tkO HT_.out HW_.out (by kernel_rfl)) (fun _ _ _ h=>h) (Or.inl ⟨by rfl,?_⟩) hHeld ?_ ?_
 rotate_left
 · rintro w' ⟨s0,s1,s2,s3,s4,s5,s6,s7⟩
   go_simp
   with_reducible rfl
 rotate_left
 · simp only [Act.put,zS,zT,zU,i64_w,i32_w]
   rfl
 refine take_ (i:=3) (N:=some 8) (v:=?_) (a':=?_) #[true,true,true,true,false,true,false,true,false,false,false,false,false] rfl rfl (tkO HT_.out HW_.out (by kernel_rfl)) (fun _ _ _ h=>h) (Or.inl ⟨by rfl,?_⟩) hHeld ?_ ?_
 rotate_left
 · rintro w' ⟨s0,s1,s2,s3,s4,s5,s6,s7⟩
   go_simp
   with_reducible rfl
 rotate_left
 · simp only [Act.put,zS,zT,zU,i64_w,i32_w]
   rfl
 refine take_ (i:=6) (N:=some 11) (v:=?_) (a':=?_) #[true,true,true,true,false,true,true,true,false,false,false,false,false] rfl rfl (tkO HT_.out HW_.out (by kernel_rfl)) (fun _ _ _ h=>h) (Or.inl ⟨by rfl,?_⟩) hHeld ?_ ?_
 rotate_left
 · rintro w' ⟨s0,s1,s2,s3,s4,s5,s6,s7⟩
   go_simp
   with_reducible rfl
 rotate_left
 · simp only [Act.put,zS,zT,zU,i64_w,i32_w]
   rfl
 refine take_ (i:=8) (N:=some 13) (v:=?_) (a':=?_) #[true,true,true,true,false,true,true,true,true,false,false,false,false] rfl rfl (tkO HT_.out HW_.out (by kernel_rfl)) (fun _ _ _ h=>h) (Or.inl ⟨by rfl,?_⟩) hHeld ?_ ?_
 rotate_left
 · rintro w' ⟨s0,s1,s2,s3,s4,s5,s6,s7⟩
   go_simp
   with_reducible rfl
 rotate_left
 · simp only [Act.put,zS,zT,zU,i64_w,i32_w]
   rfl
 refine one_ (i:=4) (N:=some 9) (b_ 9 4) rfl rfl (one_of HT_.out (by kernel_rfl)) (by decide) (fun K hK=>?_)
 refine goes_ Tryd.func82 (by kernel_rfl) rfl #[.string a0_0,.string a1_0] (by rfl) rfl rfl (by (try simp only [zA,zC,zN]);first|done|rfl|(simp only [zM,zL];rfl)) ?_
 with_reducible refine (cmp_Compare_string.calls a0_0 a1_0 t277 _ A3.out).mono ?_
 rintro e w' ⟨rfl,⟨nd,rfl⟩⟩
 refine ⟨_,rfl,?_⟩
 refine hK.out _ _ ⟨(kc BK275.out 0).trans rfl,(kc BK275.out 1).trans rfl,(kc BK275.out 2).trans rfl,(kc BK275.out 3).trans rfl,(kc BK276.out 0).trans rfl,(kc BK276.out 1).trans rfl,(kc BK276.out 2).trans rfl,(kc BK276.out 3).trans rfl⟩ (fun hHeld=>?_)
 clear hK K
 refine norm_ (a':=?_) ?_ ?_
 rotate_left
 · show Act.put _ (some 9) _=_
   simp only [Act.put,zS,zT,zU,i64_w,i32_w]
   rfl
 refine one_ (i:=9) (N:=some 14) (b_ 10 3) rfl rfl (one_of HT_.out (by kernel_rfl)) (by decide) (fun K hK=>?_)
 refine goes_ Tryd.func83 (by kernel_rfl) rfl #[.int .i64 a1_1,.int .i64 a0_1] (by rfl) rfl rfl (by (try simp only [zA,zC,zN]);first|done|rfl|(simp only [zM,zL];rfl)) ?_
 with_reducible refine (cmp_Compare_int.calls a1_1 a0_1 t278 _ A4.out).mono ?_
 rintro e w' ⟨rfl,⟨nd,rfl⟩⟩
 refine ⟨_,rfl,?_⟩
 refine hK.out _ _ ⟨(kc BK275.out 0).trans rfl,(kc BK275.out 1).trans rfl,(kc BK275.out 2).trans rfl,(kc BK275.out 3).trans rfl,(kc BK276.out 0).trans rfl,(kc BK276.out 1).trans rfl,(kc BK276.out 2).trans rfl,(kc BK276.out 3).trans rfl⟩ (fun hHeld=>?_)
 clear hK K
 refine norm_ (a':=?_) ?_ ?_
 rotate_left
 · show Act.put _ (some 14) _=_
   simp only [Act.put,zS,zT,zU,i64_w,i32_w]
   rfl
 refine one_ (i:=10) (N:=some 15) (b_ 11 2) rfl rfl (one_of HT_.out (by kernel_rfl)) (by decide) (fun K hK=>?_)
 refine Kd.R_lit_step (Kd.int .i64) _ 3 ?hg (N:=15) ?hd (xs:=([t277,t278]:List Int)) (inner:=[.int .i64 t277,.int .i64 t278]) (ok:=fun _=>True) (okp:=fun _=>True) ?hr ?hp (fun _ hk=>hk) trivial (Below.refl _ _) (Nat.le_refl _) (by simp) ?_;(case hd=>rfl);(case hg=>rfl);(case hr=>first|(go_simp;done)|(go_simp;rfl));(case hp=>exact (Reps.one (show Kd.M (Kd.int .i64) _ _ _ t277 [.int .i64 t277] from rfl) (Reps.one (show Kd.M (Kd.int .i64) _ _ _ t278 [.int .i64 t278] from rfl) (Reps.none _ _))))
 intro v280 w9 ho10 hb hg_ hnew_
 clear hg_ hnew_
 (first|rw [← Ny279.out] at ho10|(simp only [Int.reduceToNat] at ho10;rw [← Ny279.out] at ho10))
 have n0_:=AsZ.mk (Kd.R_lower ho10 (bwz (by repeat (first|(with_reducible first|exact HB.out|apply bwa|apply pbN|apply bw1|refine bws ?_ GE275.out|refine bws ?_ GE276.out)|exact HB.out))))
 have n1_:=AsZ.mk (kb (g:=gb275) (o := .cells #[.string a0_0,.int .i64 a0_1,.int .i64 a0_2,.string a0_3] 28 (0,0)) (by (with_reducible repeat (first|refine kdN ?_ _|refine kd ?_|refine ka ?_ _));exact BK275.out) hb)
 have n2_:=AsZ.mk (kb (g:=gb276) (o := .cells #[.string a1_0,.int .i64 a1_1,.int .i64 a1_2,.string a1_3] 28 (0,0)) (by (with_reducible repeat (first|refine kdN ?_ _|refine kd ?_|refine ka ?_ _));exact BK276.out) hb)
 have n3_:=AsZ.mk (bwp (by repeat (first|(with_reducible first|exact HB.out|apply bwa|apply pbN|apply bw1|refine bws ?_ GE275.out|refine bws ?_ GE276.out)|exact HB.out)) hb)
 clear BK275 BK276 HB
 have HO281:=n0_
 have BK275:=n1_
 have BK276:=n2_
 have HB:=n3_
 clear n0_ n1_ n2_ n3_ hb ho10
 obtain ⟨Ao11,co11,eo11⟩:=Kd.R_slice HO281.out
 (first|subst eo11|(injection eo11 with f1_ f2_ f3_;have f4_:=f1_.symm;have f5_:=f3_.symm;clear f1_ f2_ f3_;subst f4_;subst f5_))
 refine hK.out _ _ ⟨(kc BK275.out 0).trans rfl,(kc BK275.out 1).trans rfl,(kc BK275.out 2).trans rfl,(kc BK275.out 3).trans rfl,(kc BK276.out 0).trans rfl,(kc BK276.out 1).trans rfl,(kc BK276.out 2).trans rfl,(kc BK276.out 3).trans rfl⟩ (fun hHeld=>?_)
 clear hK K
 refine norm_ (a':=?_) ?_ ?_
 rotate_left
 · show Act.put _ (some 15) _=_
   simp only [Act.put,zS,zT,zU,i64_w,i32_w]
   rfl
 refine one_ (i:=11) (N:=some 16) (b_ 12 1) rfl rfl (one_of HT_.out (by kernel_rfl)) (by decide) (fun K hK=>?_)
 refine goes_ Tryd.func81 (by kernel_rfl) rfl #[.slice Ao11 y279.length co11] (by rfl) rfl rfl (by (try simp only [zA,zC,zN]);first|done|rfl|(simp only [zM,zL];rfl)) ?_
 with_reducible refine (cmp_Or_int.calls k _ _ y279 t282 _ ?side1 ?side2 A5.out).mono ?_
 (case side1=>repeat (first|exact (Kd.R_reads' HO281.out).2.2|(with_reducible refine Kd.C_alloc ?_ _)|(with_reducible refine Kd.C_drewN ?_ _)|(with_reducible refine Kd.C_drew ?_)))
 (case side2=>exact (Kd.R_reads' HO281.out).2.1)
 rintro e w' ⟨rfl,⟨nd,rfl⟩⟩
 refine ⟨_,rfl,?_⟩
 refine hK.out _ _ ⟨(kc BK275.out 0).trans rfl,(kc BK275.out 1).trans rfl,(kc BK275.out 2).trans rfl,(kc BK275.out 3).trans rfl,(kc BK276.out 0).trans rfl,(kc BK276.out 1).trans rfl,(kc BK276.out 2).trans rfl,(kc BK276.out 3).trans rfl⟩ (fun hHeld=>?_)
 clear hK K
 refine norm_ (a':=?_) ?_ ?_
 rotate_left
 · show Act.put _ (some 16) _=_
   simp only [Act.put,zS,zT,zU,i64_w,i32_w]
   rfl
 refine pure_ (i:=12) (N:=some 4) (v:=?_) (a':=?_) (b_ 13 0) rfl rfl (anO HT_.out (by kernel_rfl)) (fun _ _ _ h=>h) (Or.inl ⟨by rfl,?_⟩) ?_ ?_
 rotate_left
 · intro w'
   go_simp
   with_reducible rfl
 rotate_left
 · simp only [Act.put,zS,zT,zU,i64_w,i32_w]
   rfl
 refine dn_ (dnO HT_.out (by kernel_rfl)) ?_
 try go_wp2
 go_ret
 exact ⟨by first|rfl|(simp [errW_none,errW_some]<;>rfl)|(simp [*,errW_none,errW_some]<;>rfl),by repeat (first|(with_reducible first|exact HB.out|apply bwa|apply pbN|apply bw1|refine bws ?_ GE275.out|refine bws ?_ GE276.out)|exact HB.out)⟩
end Go.Proofs.YtffjlpphcjfdgaaDoor.MFnExactSeekSkip
