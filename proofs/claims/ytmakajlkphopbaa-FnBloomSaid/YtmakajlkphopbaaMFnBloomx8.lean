-- Written by a program of this session out of the translation. Not trusted: Lean checks it.
import Derived.Test.YtmakajlkphopbaaMFnBloomx0
import Derived.Test.YtmakajlkphopbaaMFnBloomx1
import Derived.Test.YtmakajlkphopbaaMFnBloomx2
import Derived.Test.YtmakajlkphopbaaMFnBloomx3
import Derived.Test.YtmakajlkphopbaaMFnBloomx4
import Derived.Test.YtmakajlkphopbaaMFnBloomx5
import Derived.Test.YtmakajlkphopbaaMFnBloomx6
import Derived.Test.YtmakajlkphopbaaMFnBloomx7
namespace Go.Proofs.Ytmakajlkphopbaa.MFnBloom
open Go.RowKit Go.Proofs.YtmakajlkphopbaaW.PrintWords Go.Proofs.YtmakajlkphopbaaW.PrintLast Go.Proofs.YtmakajlkphopbaaW.PrintMore Go.Proofs.YtmakajlkphopbaaX
attribute [local go_sem] max2_int min2_int max_two min_two max_three min_three max_four min_four str_gtr str_leq str_geq cell_twice
set_option linter.unusedVariables false
set_option linter.unusedSimpArgs false

attribute [local go_sem high] eqA27
/-! ### laws_FnBloom: function 11 -/
mutual
def laws_FnBloom.j0 : Nat → List Int → ByteArray → Bool → Bool → Int → ByteArray → Int → Int → ByteArray → Int → Option (Bool)
  | 0, _, _, _, _, _, _, _, _, _, _ => none
  | k + 1, x1, x6, x8, x59, x358000, x358001, x358002, x363000, x363001, x363002 => if x59 = true then (some false) else (if x8 = true then ((impl_MayHave.f k x363000 x363001 x363002 x6).bind fun bt368 => ((impl_OnesIn.f k x358000 x358001 x358002).bind fun bt370 => ((impl_OnesIn.f k x363000 x363001 x363002).bind fun bt372 => (if bt368.2 = true then (if bt370.2 = true then (if bt372.2 = true then (if bt368.1 = true then (if bt372.1 < bt370.1 then (some false) else (if bt372.1 > (wrap64 (bt370.1 + x358000)) then (some false) else (laws_FnBloom.j1 k x1))) else (some false)) else (some false)) else (some false)) else (some false))))) else (laws_FnBloom.j1 k x1))
def laws_FnBloom.j1 : Nat → List Int → Option (Bool)
  | 0, _ => none
  | k + 1, x1 => (spec_DrawFilterOf.f k x1).bind fun bt374 => ((impl_FilterOf.f k bt374.1 bt374.2).bind fun bt378 => ((spec_FilterOf.f k bt374.1 bt374.2).bind fun bt383 => (if (bt378.2.2.2 != bt383.2.2.2) = true then (laws_FnBloom.j2 k bt374.1 bt374.2 bt378.2.2.2 true bt378.1 bt378.2.1 bt378.2.2.1) else (laws_FnBloom.j2 k bt374.1 bt374.2 bt378.2.2.2 (!(bt378.1 == bt383.1) || (!(bt378.2.1.toList == bt383.2.1.toList) || (!(bt378.2.2.1 == bt383.2.2.1)))) bt378.1 bt378.2.1 bt378.2.2.1))))
def laws_FnBloom.j2 : Nat → List ByteArray → Int → Bool → Bool → Int → ByteArray → Int → Option (Bool)
  | 0, _, _, _, _, _, _, _ => none
  | k + 1, x17, x18, x20, x128, x383000, x383001, x383002 => if x128 = true then (some false) else (if x20 = true then (laws_FnBloom.l0 k x18 x17 (x17.length : Int) 0 x383000 x383001 x383002) else (some (x383000 == 0)))
def laws_FnBloom.l0 : Nat → Int → List ByteArray → Int → Int → Int → ByteArray → Int → Option (Bool)
  | 0, _, _, _, _, _, _, _ => none
  | k + 1, x18, x134, x135, x136, x383000, x383001, x383002 => if x136 < x135 then (if 0 ≤ x136 then (if x136 < (x134.length : Int) then ((impl_MayHave.f k x383000 x383001 x383002 (rdOf ByteArray.empty x134 x136)).bind fun bt389 => ((impl_PlacesOf.f k (rdOf ByteArray.empty x134 x136) x18).bind fun bt391 => (if bt389.2 = true then (if bt391.2 = true then (if bt389.1 = true then (if (bt391.1.length : Int) = x18 then (laws_FnBloom.l0 k x18 x134 x135 (wrap64 (x136 + 1)) x383000 x383001 x383002) else (some false)) else (some false)) else (some false)) else (some false)))) else (none)) else (none)) else (some true)
end
def laws_FnBloom.f (k : Nat) (l0 : List Int) (l1 : List Int) : Option (Bool) := if (wrap64 ((l0.length : Int) + (l1.length : Int))) > 1048576 then (some true) else ((spec_DrawAddKey.f k l0).bind fun bt353 => ((impl_AddKey.f k bt353.1 bt353.2.1 bt353.2.2.1 bt353.2.2.2).bind fun bt358 => ((spec_AddKey.f k bt353.1 bt353.2.1 bt353.2.2.1 bt353.2.2.2).bind fun bt363 => (if (bt358.2.2.2 != bt363.2.2.2) = true then (laws_FnBloom.j0 k l1 bt353.2.2.2 bt358.2.2.2 true bt353.1 bt353.2.1 bt353.2.2.1 bt358.1 bt358.2.1 bt358.2.2.1) else (laws_FnBloom.j0 k l1 bt353.2.2.2 bt358.2.2.2 (!(bt358.1 == bt363.1) || (!(bt358.2.1.toList == bt363.2.1.toList) || (!(bt358.2.2.1 == bt363.2.2.1)))) bt353.1 bt353.2.1 bt353.2.2.1 bt358.1 bt358.2.1 bt358.2.2.1)))))
theorem laws_FnBloom.mono_l : ∀ k, (∀ y0 y1 y2 y3 y4 y5 y6 y7 y8 y9, LeO (laws_FnBloom.j0 k y0 y1 y2 y3 y4 y5 y6 y7 y8 y9) (laws_FnBloom.j0 (k + 1) y0 y1 y2 y3 y4 y5 y6 y7 y8 y9)) ∧ (∀ y0, LeO (laws_FnBloom.j1 k y0) (laws_FnBloom.j1 (k + 1) y0)) ∧ (∀ y0 y1 y2 y3 y4 y5 y6, LeO (laws_FnBloom.j2 k y0 y1 y2 y3 y4 y5 y6) (laws_FnBloom.j2 (k + 1) y0 y1 y2 y3 y4 y5 y6)) ∧ (∀ y0 y1 y2 y3 y4 y5 y6, LeO (laws_FnBloom.l0 k y0 y1 y2 y3 y4 y5 y6) (laws_FnBloom.l0 (k + 1) y0 y1 y2 y3 y4 y5 y6))
  | 0 => ⟨fun _ _ _ _ _ _ _ _ _ _ r h => by simp [laws_FnBloom.j0] at h, fun _ r h => by simp [laws_FnBloom.j1] at h, fun _ _ _ _ _ _ _ r h => by simp [laws_FnBloom.j2] at h, fun _ _ _ _ _ _ _ r h => by simp [laws_FnBloom.l0] at h⟩
  | k + 1 => by
    obtain ⟨ih0, ih1, ih2, ih3⟩ := laws_FnBloom.mono_l k
    refine ⟨?_, ?_, ?_, ?_⟩
    · intro y0 y1 y2 y3 y4 y5 y6 y7 y8 y9
      unfold laws_FnBloom.j0
      repeat' first
      | (with_reducible exact ih0 _ _ _ _ _ _ _ _ _ _)
      | (with_reducible exact ih1 _)
      | (with_reducible exact ih2 _ _ _ _ _ _ _)
      | (with_reducible exact ih3 _ _ _ _ _ _ _)
      | (with_reducible exact impl_AddKey.mono _ _ _ _ _)
      | (with_reducible exact impl_FilterOf.mono _ _ _)
      | (with_reducible exact impl_MayHave.mono _ _ _ _ _)
      | (with_reducible exact impl_OnesIn.mono _ _ _ _)
      | (with_reducible exact impl_PlacesOf.mono _ _ _)
      | (with_reducible exact spec_AddKey.mono _ _ _ _ _)
      | (with_reducible exact spec_DrawAddKey.mono _ _)
      | (with_reducible exact spec_DrawFilterOf.mono _ _)
      | (with_reducible exact spec_FilterOf.mono _ _ _)
      | (with_reducible exact LeO.refl _)
      | (with_reducible exact LeO.none _)
      | (with_reducible refine LeO.ite ?_ ?_)
      | (with_reducible refine LeO.bind ?_ (fun _ => ?_))
      | exact ih0 _ _ _ _ _ _ _ _ _ _
      | exact ih1 _
      | exact ih2 _ _ _ _ _ _ _
      | exact ih3 _ _ _ _ _ _ _
      | exact impl_AddKey.mono _ _ _ _ _
      | exact impl_FilterOf.mono _ _ _
      | exact impl_MayHave.mono _ _ _ _ _
      | exact impl_OnesIn.mono _ _ _ _
      | exact impl_PlacesOf.mono _ _ _
      | exact spec_AddKey.mono _ _ _ _ _
      | exact spec_DrawAddKey.mono _ _
      | exact spec_DrawFilterOf.mono _ _
      | exact spec_FilterOf.mono _ _ _
      | exact LeO.none _
      | refine LeO.ite ?_ ?_
      | refine LeO.bind ?_ (fun _ => ?_)
    · intro y0
      unfold laws_FnBloom.j1
      repeat' first
      | (with_reducible exact ih0 _ _ _ _ _ _ _ _ _ _)
      | (with_reducible exact ih1 _)
      | (with_reducible exact ih2 _ _ _ _ _ _ _)
      | (with_reducible exact ih3 _ _ _ _ _ _ _)
      | (with_reducible exact impl_AddKey.mono _ _ _ _ _)
      | (with_reducible exact impl_FilterOf.mono _ _ _)
      | (with_reducible exact impl_MayHave.mono _ _ _ _ _)
      | (with_reducible exact impl_OnesIn.mono _ _ _ _)
      | (with_reducible exact impl_PlacesOf.mono _ _ _)
      | (with_reducible exact spec_AddKey.mono _ _ _ _ _)
      | (with_reducible exact spec_DrawAddKey.mono _ _)
      | (with_reducible exact spec_DrawFilterOf.mono _ _)
      | (with_reducible exact spec_FilterOf.mono _ _ _)
      | (with_reducible exact LeO.refl _)
      | (with_reducible exact LeO.none _)
      | (with_reducible refine LeO.ite ?_ ?_)
      | (with_reducible refine LeO.bind ?_ (fun _ => ?_))
      | exact ih0 _ _ _ _ _ _ _ _ _ _
      | exact ih1 _
      | exact ih2 _ _ _ _ _ _ _
      | exact ih3 _ _ _ _ _ _ _
      | exact impl_AddKey.mono _ _ _ _ _
      | exact impl_FilterOf.mono _ _ _
      | exact impl_MayHave.mono _ _ _ _ _
      | exact impl_OnesIn.mono _ _ _ _
      | exact impl_PlacesOf.mono _ _ _
      | exact spec_AddKey.mono _ _ _ _ _
      | exact spec_DrawAddKey.mono _ _
      | exact spec_DrawFilterOf.mono _ _
      | exact spec_FilterOf.mono _ _ _
      | exact LeO.none _
      | refine LeO.ite ?_ ?_
      | refine LeO.bind ?_ (fun _ => ?_)
    · intro y0 y1 y2 y3 y4 y5 y6
      unfold laws_FnBloom.j2
      repeat' first
      | (with_reducible exact ih0 _ _ _ _ _ _ _ _ _ _)
      | (with_reducible exact ih1 _)
      | (with_reducible exact ih2 _ _ _ _ _ _ _)
      | (with_reducible exact ih3 _ _ _ _ _ _ _)
      | (with_reducible exact impl_AddKey.mono _ _ _ _ _)
      | (with_reducible exact impl_FilterOf.mono _ _ _)
      | (with_reducible exact impl_MayHave.mono _ _ _ _ _)
      | (with_reducible exact impl_OnesIn.mono _ _ _ _)
      | (with_reducible exact impl_PlacesOf.mono _ _ _)
      | (with_reducible exact spec_AddKey.mono _ _ _ _ _)
      | (with_reducible exact spec_DrawAddKey.mono _ _)
      | (with_reducible exact spec_DrawFilterOf.mono _ _)
      | (with_reducible exact spec_FilterOf.mono _ _ _)
      | (with_reducible exact LeO.refl _)
      | (with_reducible exact LeO.none _)
      | (with_reducible refine LeO.ite ?_ ?_)
      | (with_reducible refine LeO.bind ?_ (fun _ => ?_))
      | exact ih0 _ _ _ _ _ _ _ _ _ _
      | exact ih1 _
      | exact ih2 _ _ _ _ _ _ _
      | exact ih3 _ _ _ _ _ _ _
      | exact impl_AddKey.mono _ _ _ _ _
      | exact impl_FilterOf.mono _ _ _
      | exact impl_MayHave.mono _ _ _ _ _
      | exact impl_OnesIn.mono _ _ _ _
      | exact impl_PlacesOf.mono _ _ _
      | exact spec_AddKey.mono _ _ _ _ _
      | exact spec_DrawAddKey.mono _ _
      | exact spec_DrawFilterOf.mono _ _
      | exact spec_FilterOf.mono _ _ _
      | exact LeO.none _
      | refine LeO.ite ?_ ?_
      | refine LeO.bind ?_ (fun _ => ?_)
    · intro y0 y1 y2 y3 y4 y5 y6
      unfold laws_FnBloom.l0
      repeat' first
      | (with_reducible exact ih0 _ _ _ _ _ _ _ _ _ _)
      | (with_reducible exact ih1 _)
      | (with_reducible exact ih2 _ _ _ _ _ _ _)
      | (with_reducible exact ih3 _ _ _ _ _ _ _)
      | (with_reducible exact impl_AddKey.mono _ _ _ _ _)
      | (with_reducible exact impl_FilterOf.mono _ _ _)
      | (with_reducible exact impl_MayHave.mono _ _ _ _ _)
      | (with_reducible exact impl_OnesIn.mono _ _ _ _)
      | (with_reducible exact impl_PlacesOf.mono _ _ _)
      | (with_reducible exact spec_AddKey.mono _ _ _ _ _)
      | (with_reducible exact spec_DrawAddKey.mono _ _)
      | (with_reducible exact spec_DrawFilterOf.mono _ _)
      | (with_reducible exact spec_FilterOf.mono _ _ _)
      | (with_reducible exact LeO.refl _)
      | (with_reducible exact LeO.none _)
      | (with_reducible refine LeO.ite ?_ ?_)
      | (with_reducible refine LeO.bind ?_ (fun _ => ?_))
      | exact ih0 _ _ _ _ _ _ _ _ _ _
      | exact ih1 _
      | exact ih2 _ _ _ _ _ _ _
      | exact ih3 _ _ _ _ _ _ _
      | exact impl_AddKey.mono _ _ _ _ _
      | exact impl_FilterOf.mono _ _ _
      | exact impl_MayHave.mono _ _ _ _ _
      | exact impl_OnesIn.mono _ _ _ _
      | exact impl_PlacesOf.mono _ _ _
      | exact spec_AddKey.mono _ _ _ _ _
      | exact spec_DrawAddKey.mono _ _
      | exact spec_DrawFilterOf.mono _ _
      | exact spec_FilterOf.mono _ _ _
      | exact LeO.none _
      | refine LeO.ite ?_ ?_
      | refine LeO.bind ?_ (fun _ => ?_)
theorem laws_FnBloom.mono : ∀ a0 a1 k, LeO (laws_FnBloom.f k a0 a1) (laws_FnBloom.f (k + 1) a0 a1) := by
  intro a0 a1 k
  obtain ⟨ih0, ih1, ih2, ih3⟩ := laws_FnBloom.mono_l k
  unfold laws_FnBloom.f
  repeat' first
      | (with_reducible exact ih0 _ _ _ _ _ _ _ _ _ _)
      | (with_reducible exact ih1 _)
      | (with_reducible exact ih2 _ _ _ _ _ _ _)
      | (with_reducible exact ih3 _ _ _ _ _ _ _)
      | (with_reducible exact impl_AddKey.mono _ _ _ _ _)
      | (with_reducible exact impl_FilterOf.mono _ _ _)
      | (with_reducible exact impl_MayHave.mono _ _ _ _ _)
      | (with_reducible exact impl_OnesIn.mono _ _ _ _)
      | (with_reducible exact impl_PlacesOf.mono _ _ _)
      | (with_reducible exact spec_AddKey.mono _ _ _ _ _)
      | (with_reducible exact spec_DrawAddKey.mono _ _)
      | (with_reducible exact spec_DrawFilterOf.mono _ _)
      | (with_reducible exact spec_FilterOf.mono _ _ _)
      | (with_reducible exact LeO.refl _)
      | (with_reducible exact LeO.none _)
      | (with_reducible refine LeO.ite ?_ ?_)
      | (with_reducible refine LeO.bind ?_ (fun _ => ?_))
      | exact ih0 _ _ _ _ _ _ _ _ _ _
      | exact ih1 _
      | exact ih2 _ _ _ _ _ _ _
      | exact ih3 _ _ _ _ _ _ _
      | exact impl_AddKey.mono _ _ _ _ _
      | exact impl_FilterOf.mono _ _ _
      | exact impl_MayHave.mono _ _ _ _ _
      | exact impl_OnesIn.mono _ _ _ _
      | exact impl_PlacesOf.mono _ _ _
      | exact spec_AddKey.mono _ _ _ _ _
      | exact spec_DrawAddKey.mono _ _
      | exact spec_DrawFilterOf.mono _ _
      | exact spec_FilterOf.mono _ _ _
      | exact LeO.none _
      | refine LeO.ite ?_ ?_
      | refine LeO.bind ?_ (fun _ => ?_)
set_option maxHeartbeats 8000000 in
set_option maxRecDepth 100000 in
theorem laws_FnBloom.calls (k : Nat) (A0 : Option Addr) (c0 : Nat) (l0 : List Int) (A1 : Option Addr) (c1 : Nat) (l1 : List Int) (r : Bool) (w : World) (hr0 : Kd.C (Kd.int .u8) w A0 l0.length l0) (hc0 : l0.length ≤ c0) (hr1 : Kd.C (Kd.int .u8) w A1 l1.length l1) (hc1 : l1.length ≤ c1) (h : laws_FnBloom.f k l0 l1 = some r) :
    Calls Try.prog 11 #[.slice A0 l0.length c0, .slice A1 l1.length c1] w fun e w' => e = .returned (.bool r) ∧ Below w.heap.size w w' := by
  have hu27 := Try.underlying27
  have HR0 := Aside0.mk hr0
  have HC0 := Aside0.mk hc0
  clear hr0 hc0
  have HR1 := Aside0.mk hr1
  have HC1 := Aside0.mk hc1
  clear hr1 hc1
  have HB := Aside0.mk (Below.refl w.heap.size w)
  have H : (if (wrap64 ((l0.length : Int) + (l1.length : Int))) > 1048576 then (some true) else ((spec_DrawAddKey.f k l0).bind fun bt353 => ((impl_AddKey.f k bt353.1 bt353.2.1 bt353.2.2.1 bt353.2.2.2).bind fun bt358 => ((spec_AddKey.f k bt353.1 bt353.2.1 bt353.2.2.1 bt353.2.2.2).bind fun bt363 => (if (bt358.2.2.2 != bt363.2.2.2) = true then (laws_FnBloom.j0 k l1 bt353.2.2.2 bt358.2.2.2 true bt353.1 bt353.2.1 bt353.2.2.1 bt358.1 bt358.2.1 bt358.2.2.1) else (laws_FnBloom.j0 k l1 bt353.2.2.2 bt358.2.2.2 (!(bt358.1 == bt363.1) || (!(bt358.2.1.toList == bt363.2.1.toList) || (!(bt358.2.2.1 == bt363.2.2.1)))) bt353.1 bt353.2.1 bt353.2.2.1 bt358.1 bt358.2.1 bt358.2.2.1)))))) = some r := h
  clear h
  by_cases c3 : (wrap64 ((l0.length : Int) + (l1.length : Int))) > 1048576
  · rw [if_pos c3] at H
    have c3b0 : decide (1048576 < (wrap64 ((l0.length : Int) + (l1.length : Int)))) = true := decide_eq_true c3
    clear c3
    obtain rfl := Option.some.inj H
    go_enter Try.func11, Try.ntmps11
    go_wp2
    go_ret
    exact ⟨by first | rfl | (simp [errW_none, errW_some] <;> rfl) | (simp [*, errW_none, errW_some] <;> rfl), by repeat (first | (with_reducible first | exact HB.out | apply below_alloc | apply pw_below_drewN | apply below_drew1) | exact HB.out)⟩
  · rw [if_neg c3] at H
    have c3b0 : decide (1048576 < (wrap64 ((l0.length : Int) + (l1.length : Int)))) = false := decide_eq_false c3
    clear c3
    replace H := Option.bind_eq_some_iff.mp H
    obtain ⟨⟨t353, t354, t355, t356⟩, A40, H⟩ := H
    replace H : ((impl_AddKey.f k t353 t354 t355 t356).bind fun bt358 => ((spec_AddKey.f k t353 t354 t355 t356).bind fun bt363 => (if (bt358.2.2.2 != bt363.2.2.2) = true then (laws_FnBloom.j0 k l1 t356 bt358.2.2.2 true t353 t354 t355 bt358.1 bt358.2.1 bt358.2.2.1) else (laws_FnBloom.j0 k l1 t356 bt358.2.2.2 (!(bt358.1 == bt363.1) || (!(bt358.2.1.toList == bt363.2.1.toList) || (!(bt358.2.2.1 == bt363.2.2.1)))) t353 t354 t355 bt358.1 bt358.2.1 bt358.2.2.1)))) = some r := H
    have A4 := Aside0.mk A40
    clear A40
    replace H := Option.bind_eq_some_iff.mp H
    obtain ⟨⟨t358, t359, t360, t361⟩, A50, H⟩ := H
    replace H : ((spec_AddKey.f k t353 t354 t355 t356).bind fun bt363 => (if (t361 != bt363.2.2.2) = true then (laws_FnBloom.j0 k l1 t356 t361 true t353 t354 t355 t358 t359 t360) else (laws_FnBloom.j0 k l1 t356 t361 (!(t358 == bt363.1) || (!(t359.toList == bt363.2.1.toList) || (!(t360 == bt363.2.2.1)))) t353 t354 t355 t358 t359 t360))) = some r := H
    have A5 := Aside0.mk A50
    clear A50
    replace H := Option.bind_eq_some_iff.mp H
    obtain ⟨⟨t363, t364, t365, t366⟩, A60, H⟩ := H
    replace H : (if (t361 != t366) = true then (laws_FnBloom.j0 k l1 t356 t361 true t353 t354 t355 t358 t359 t360) else (laws_FnBloom.j0 k l1 t356 t361 (!(t358 == t363) || (!(t359.toList == t364.toList) || (!(t360 == t365)))) t353 t354 t355 t358 t359 t360)) = some r := H
    have A6 := Aside0.mk A60
    clear A60
    have HC7 := Aside0.mk H
    clear H
    go_enter Try.func11, Try.ntmps11
    go_upto_region 6 with (first | ((with_reducible refine gate_callee (f := 37) rfl ?_); refine goesL_ (some 37) rfl rfl Try.func37 (by kernel_rfl) rfl #[.slice A0 l0.length c0] rfl (by (try simp only [List.map_toArray, List.map_cons, List.map_nil]); first | done | rfl | (simp only [List.length_drop, List.length_take]; rfl)) ?_; (with_reducible refine (spec_DrawAddKey.calls k _ _ l0 t353 t354 t355 t356 _ ?side1 ?side2 A4.out).mono ?_); (case side1 => repeat (first | exact HR0.out | (with_reducible refine Kd.C_alloc ?_ _) | (with_reducible refine Kd.C_drewN ?_ _) | (with_reducible refine Kd.C_drew ?_))); (case side2 => exact HC0.out); rintro e w8 ⟨rfl, hb⟩; refine ⟨_, rfl, ?_⟩; have n0_ := Aside0.mk (below_step (by repeat (first | (with_reducible first | exact HB.out | apply below_alloc | apply pw_below_drewN | apply below_drew1) | exact HB.out)) hb); clear HB; have HB := n0_; clear n0_; (try clear hb); (try clear hb2); (try clear hk); (try clear hi)) | ((with_reducible refine gate_dst (N := 5) rfl ?_); (try (refine gate_guard (by rfl) ?_; dsimp only)); refine box_event ?hg (N := 5) ?hd (cs := #[.int .i64 0, .string (⟨#[]⟩ : ByteArray), .int .i64 0]) (t := 27) ?hr ?_; (case hd => rfl); (case hg => rfl); (case hr => first | (go_simp; done) | (go_simp; rfl)); intro gb357 hg w9 hbox hb; have n0_ := Aside0.mk (below_step (by repeat (first | (with_reducible first | exact HB.out | apply below_alloc | apply pw_below_drewN | apply below_drew1) | exact HB.out)) hb); have n1_ := Aside0.mk (hbox); have n2_ := Aside0.mk ((by rw [hg]; exact (below_size (by repeat (first | (with_reducible first | exact HB.out | apply below_alloc | apply pw_below_drewN | apply below_drew1) | exact HB.out))) : w.heap.size ≤ gb357)); have n3_ := Aside0.mk ((by rw [hg]; exact (below_size (by repeat (first | (with_reducible first | exact HB.out | apply below_alloc | apply pw_below_drewN | apply below_drew1) | exact HB.out))) : w.heap.size ≤ gb357)); clear HB; have HB := n0_; have BK357 := n1_; have GW357 := n2_; have GE357 := n3_; clear n0_ n1_ n2_ n3_; clear hb hbox hg; have hcz10_0 : w9.cell? ⟨gb357, 0, none⟩ = some (.int .i64 0) := (blk_cell BK357.out 0).trans rfl; have hcz10_1 : w9.cell? ⟨gb357, 1, none⟩ = some (.string (⟨#[]⟩ : ByteArray)) := (blk_cell BK357.out 1).trans rfl; have hcz10_2 : w9.cell? ⟨gb357, 2, none⟩ = some (.int .i64 0) := (blk_cell BK357.out 2).trans rfl; have hfz10_0 := blk_frozen BK357.out 0; have hfz10_1 := blk_frozen BK357.out 1; have hfz10_2 := blk_frozen BK357.out 2) | ((with_reducible refine gate_callee (f := 27) rfl ?_); refine goesL_ (some 43) rfl rfl Try.func27 (by kernel_rfl) rfl #[.agg #[.int .i64 t353, .string t354, .int .i64 t355], .string t356] rfl (by (try simp only [List.map_toArray, List.map_cons, List.map_nil]); first | done | rfl | (simp only [List.length_drop, List.length_take]; rfl)) ?_; (with_reducible refine (impl_AddKey.calls k t353 t354 t355 t356 t358 t359 t360 t361 _ A5.out).mono ?_); rintro e w11 ⟨rfl, hb⟩; refine ⟨_, rfl, ?_⟩; have n0_ := Aside0.mk (blk_below (g := gb357) (o := .cells #[.int .i64 t353, .string t354, .int .i64 t355] 27 (0, 0)) (by (with_reducible repeat (first | refine blk_drewN ?_ _ | refine blk_drew ?_ | refine blk_alloc ?_ _)); refine blk_put (cs := #[.int .i64 t353, .string t354, .int .i64 0]) ?_ 2 _ rfl; (with_reducible repeat (first | refine blk_drewN ?_ _ | refine blk_drew ?_ | refine blk_alloc ?_ _)); refine blk_put (cs := #[.int .i64 t353, .string (⟨#[]⟩ : ByteArray), .int .i64 0]) ?_ 1 _ rfl; (with_reducible repeat (first | refine blk_drewN ?_ _ | refine blk_drew ?_ | refine blk_alloc ?_ _)); refine blk_put (cs := #[.int .i64 0, .string (⟨#[]⟩ : ByteArray), .int .i64 0]) ?_ 0 _ rfl; (with_reducible repeat (first | refine blk_drewN ?_ _ | refine blk_drew ?_ | refine blk_alloc ?_ _)); exact BK357.out) hb); have n1_ := Aside0.mk (below_step (by repeat (first | (with_reducible first | exact HB.out | apply below_alloc | apply pw_below_drewN | apply below_drew1 | refine below_set ?_ GE357.out) | exact HB.out)) hb); clear BK357; clear HB; have BK357 := n0_; have HB := n1_; clear n0_ n1_; (try clear hb); (try clear hb2); (try clear hk); (try clear hi)) | ((with_reducible refine gate_dst (N := 7) rfl ?_); (try (refine gate_guard (by rfl) ?_; dsimp only)); refine box_event ?hg (N := 7) ?hd (cs := #[.int .i64 0, .string (⟨#[]⟩ : ByteArray), .int .i64 0]) (t := 27) ?hr ?_; (case hd => rfl); (case hg => rfl); (case hr => first | (go_simp; done) | (go_simp; rfl)); intro gb362 hg w12 hbox hb; have n0_ := Aside0.mk (blk_below (g := gb357) (o := .cells #[.int .i64 t353, .string t354, .int .i64 t355] 27 (0, 0)) (by (with_reducible repeat (first | refine blk_drewN ?_ _ | refine blk_drew ?_ | refine blk_alloc ?_ _)); exact BK357.out) hb); have n1_ := Aside0.mk (below_step (by repeat (first | (with_reducible first | exact HB.out | apply below_alloc | apply pw_below_drewN | apply below_drew1 | refine below_set ?_ GE357.out) | exact HB.out)) hb); have n2_ := Aside0.mk (hbox); have n3_ := Aside0.mk ((by rw [hg]; exact (below_size (by repeat (first | (with_reducible first | exact HB.out | apply below_alloc | apply pw_below_drewN | apply below_drew1 | refine below_set ?_ GE357.out) | exact HB.out))) : w.heap.size ≤ gb362)); have n4_ := Aside0.mk ((by rw [hg]; exact (below_size (by repeat (first | (with_reducible first | exact HB.out | apply below_alloc | apply pw_below_drewN | apply below_drew1 | refine below_set ?_ GE357.out) | exact HB.out))) : w.heap.size ≤ gb362)); have n5_ := Aside0.mk ((by rw [hg]; exact Nat.ne_of_lt (blk_lt (g := gb357) (o := .cells #[.int .i64 t353, .string t354, .int .i64 t355] 27 (0, 0)) (by (with_reducible repeat (first | refine blk_drewN ?_ _ | refine blk_drew ?_ | refine blk_alloc ?_ _)); exact BK357.out)) : gb357 ≠ gb362)); have n6_ := Aside0.mk ((by rw [hg]; exact Nat.ne_of_gt (blk_lt (g := gb357) (o := .cells #[.int .i64 t353, .string t354, .int .i64 t355] 27 (0, 0)) (by (with_reducible repeat (first | refine blk_drewN ?_ _ | refine blk_drew ?_ | refine blk_alloc ?_ _)); exact BK357.out)) : gb362 ≠ gb357)); clear BK357; clear HB; have BK357 := n0_; have HB := n1_; have BK362 := n2_; have GW362 := n3_; have GE362 := n4_; have NB357_362 := n5_; have NB362_357 := n6_; clear n0_ n1_ n2_ n3_ n4_ n5_ n6_; clear hb hbox hg; have hnb13 := NB362_357.out; have hnc13 := NB357_362.out; have hcz14_0 : w12.cell? ⟨gb362, 0, none⟩ = some (.int .i64 0) := (blk_cell BK362.out 0).trans rfl; have hcz14_1 : w12.cell? ⟨gb362, 1, none⟩ = some (.string (⟨#[]⟩ : ByteArray)) := (blk_cell BK362.out 1).trans rfl; have hcz14_2 : w12.cell? ⟨gb362, 2, none⟩ = some (.int .i64 0) := (blk_cell BK362.out 2).trans rfl; have hfz14_0 := blk_frozen BK362.out 0; have hfz14_1 := blk_frozen BK362.out 1; have hfz14_2 := blk_frozen BK362.out 2; have hcz15_0 : w12.cell? ⟨gb357, 0, none⟩ = some (.int .i64 t353) := (blk_cell BK357.out 0).trans rfl; have hcz15_1 : w12.cell? ⟨gb357, 1, none⟩ = some (.string t354) := (blk_cell BK357.out 1).trans rfl; have hcz15_2 : w12.cell? ⟨gb357, 2, none⟩ = some (.int .i64 t355) := (blk_cell BK357.out 2).trans rfl; have hfz15_0 := blk_frozen BK357.out 0; have hfz15_1 := blk_frozen BK357.out 1; have hfz15_2 := blk_frozen BK357.out 2) | ((with_reducible refine gate_callee (f := 26) rfl ?_); refine goesL_ (some 49) rfl rfl Try.func26 (by kernel_rfl) rfl #[.agg #[.int .i64 t353, .string t354, .int .i64 t355], .string t356] rfl (by (try simp only [List.map_toArray, List.map_cons, List.map_nil]); first | done | rfl | (simp only [List.length_drop, List.length_take]; rfl)) ?_; (with_reducible refine (spec_AddKey.calls k t353 t354 t355 t356 t363 t364 t365 t366 _ A6.out).mono ?_); rintro e w16 ⟨rfl, hb⟩; refine ⟨_, rfl, ?_⟩; have n0_ := Aside0.mk (blk_below (g := gb357) (o := .cells #[.int .i64 t353, .string t354, .int .i64 t355] 27 (0, 0)) (by (with_reducible repeat (first | refine blk_drewN ?_ _ | refine blk_drew ?_ | refine blk_alloc ?_ _)); refine blk_far ?_ NB357_362.out _; (with_reducible repeat (first | refine blk_drewN ?_ _ | refine blk_drew ?_ | refine blk_alloc ?_ _)); refine blk_far ?_ NB357_362.out _; (with_reducible repeat (first | refine blk_drewN ?_ _ | refine blk_drew ?_ | refine blk_alloc ?_ _)); refine blk_far ?_ NB357_362.out _; (with_reducible repeat (first | refine blk_drewN ?_ _ | refine blk_drew ?_ | refine blk_alloc ?_ _)); exact BK357.out) hb); have n1_ := Aside0.mk (blk_below (g := gb362) (o := .cells #[.int .i64 t358, .string t359, .int .i64 t360] 27 (0, 0)) (by (with_reducible repeat (first | refine blk_drewN ?_ _ | refine blk_drew ?_ | refine blk_alloc ?_ _)); refine blk_put (cs := #[.int .i64 t358, .string t359, .int .i64 0]) ?_ 2 _ rfl; (with_reducible repeat (first | refine blk_drewN ?_ _ | refine blk_drew ?_ | refine blk_alloc ?_ _)); refine blk_put (cs := #[.int .i64 t358, .string (⟨#[]⟩ : ByteArray), .int .i64 0]) ?_ 1 _ rfl; (with_reducible repeat (first | refine blk_drewN ?_ _ | refine blk_drew ?_ | refine blk_alloc ?_ _)); refine blk_put (cs := #[.int .i64 0, .string (⟨#[]⟩ : ByteArray), .int .i64 0]) ?_ 0 _ rfl; (with_reducible repeat (first | refine blk_drewN ?_ _ | refine blk_drew ?_ | refine blk_alloc ?_ _)); exact BK362.out) hb); have n2_ := Aside0.mk (below_step (by repeat (first | (with_reducible first | exact HB.out | apply below_alloc | apply pw_below_drewN | apply below_drew1 | refine below_set ?_ GE357.out | refine below_set ?_ GE362.out) | exact HB.out)) hb); clear BK357; clear BK362; clear HB; have BK357 := n0_; have BK362 := n1_; have HB := n2_; clear n0_ n1_ n2_; (try clear hb); (try clear hb2); (try clear hk); (try clear hi)) | ((with_reducible refine gate_dst (N := 9) rfl ?_); (try (refine gate_guard (by rfl) ?_; dsimp only)); refine box_event ?hg (N := 9) ?hd (cs := #[.int .i64 0, .string (⟨#[]⟩ : ByteArray), .int .i64 0]) (t := 27) ?hr ?_; (case hd => rfl); (case hg => rfl); (case hr => first | (go_simp; done) | (go_simp; rfl)); intro gb367 hg w17 hbox hb; have n0_ := Aside0.mk (blk_below (g := gb357) (o := .cells #[.int .i64 t353, .string t354, .int .i64 t355] 27 (0, 0)) (by (with_reducible repeat (first | refine blk_drewN ?_ _ | refine blk_drew ?_ | refine blk_alloc ?_ _)); exact BK357.out) hb); have n1_ := Aside0.mk (blk_below (g := gb362) (o := .cells #[.int .i64 t358, .string t359, .int .i64 t360] 27 (0, 0)) (by (with_reducible repeat (first | refine blk_drewN ?_ _ | refine blk_drew ?_ | refine blk_alloc ?_ _)); exact BK362.out) hb); have n2_ := Aside0.mk (below_step (by repeat (first | (with_reducible first | exact HB.out | apply below_alloc | apply pw_below_drewN | apply below_drew1 | refine below_set ?_ GE357.out | refine below_set ?_ GE362.out) | exact HB.out)) hb); have n3_ := Aside0.mk (hbox); have n4_ := Aside0.mk ((by rw [hg]; exact (below_size (by repeat (first | (with_reducible first | exact HB.out | apply below_alloc | apply pw_below_drewN | apply below_drew1 | refine below_set ?_ GE357.out | refine below_set ?_ GE362.out) | exact HB.out))) : w.heap.size ≤ gb367)); have n5_ := Aside0.mk ((by rw [hg]; exact (below_size (by repeat (first | (with_reducible first | exact HB.out | apply below_alloc | apply pw_below_drewN | apply below_drew1 | refine below_set ?_ GE357.out | refine below_set ?_ GE362.out) | exact HB.out))) : w.heap.size ≤ gb367)); have n6_ := Aside0.mk ((by rw [hg]; exact Nat.ne_of_lt (blk_lt (g := gb357) (o := .cells #[.int .i64 t353, .string t354, .int .i64 t355] 27 (0, 0)) (by (with_reducible repeat (first | refine blk_drewN ?_ _ | refine blk_drew ?_ | refine blk_alloc ?_ _)); exact BK357.out)) : gb357 ≠ gb367)); have n7_ := Aside0.mk ((by rw [hg]; exact Nat.ne_of_gt (blk_lt (g := gb357) (o := .cells #[.int .i64 t353, .string t354, .int .i64 t355] 27 (0, 0)) (by (with_reducible repeat (first | refine blk_drewN ?_ _ | refine blk_drew ?_ | refine blk_alloc ?_ _)); exact BK357.out)) : gb367 ≠ gb357)); have n8_ := Aside0.mk ((by rw [hg]; exact Nat.ne_of_lt (blk_lt (g := gb362) (o := .cells #[.int .i64 t358, .string t359, .int .i64 t360] 27 (0, 0)) (by (with_reducible repeat (first | refine blk_drewN ?_ _ | refine blk_drew ?_ | refine blk_alloc ?_ _)); exact BK362.out)) : gb362 ≠ gb367)); have n9_ := Aside0.mk ((by rw [hg]; exact Nat.ne_of_gt (blk_lt (g := gb362) (o := .cells #[.int .i64 t358, .string t359, .int .i64 t360] 27 (0, 0)) (by (with_reducible repeat (first | refine blk_drewN ?_ _ | refine blk_drew ?_ | refine blk_alloc ?_ _)); exact BK362.out)) : gb367 ≠ gb362)); clear BK357; clear BK362; clear HB; have BK357 := n0_; have BK362 := n1_; have HB := n2_; have BK367 := n3_; have GW367 := n4_; have GE367 := n5_; have NB357_367 := n6_; have NB367_357 := n7_; have NB362_367 := n8_; have NB367_362 := n9_; clear n0_ n1_ n2_ n3_ n4_ n5_ n6_ n7_ n8_ n9_; clear hb hbox hg; have hnb18 := NB367_357.out; have hnc18 := NB357_367.out; have hnb19 := NB367_362.out; have hnc19 := NB362_367.out; have hcz20_0 : w17.cell? ⟨gb367, 0, none⟩ = some (.int .i64 0) := (blk_cell BK367.out 0).trans rfl; have hcz20_1 : w17.cell? ⟨gb367, 1, none⟩ = some (.string (⟨#[]⟩ : ByteArray)) := (blk_cell BK367.out 1).trans rfl; have hcz20_2 : w17.cell? ⟨gb367, 2, none⟩ = some (.int .i64 0) := (blk_cell BK367.out 2).trans rfl; have hfz20_0 := blk_frozen BK367.out 0; have hfz20_1 := blk_frozen BK367.out 1; have hfz20_2 := blk_frozen BK367.out 2))
    (try simp only [Act.put, List.setIfInBounds_toArray, List.set_cons_zero, List.set_cons_succ])
    go_cut [59] (fun v59 wc => ∃ (kq : Nat) (x59_6 : Bool), v59 = .bool x59_6 ∧ Aside0 (laws_FnBloom.j0 kq l1 t356 t361 x59_6 t353 t354 t355 t358 t359 t360 = some r) ∧ Aside0 (kq ≤ k) ∧ Aside0 (wc.heap[gb357]? = some (.cells #[.int .i64 t353, .string t354, .int .i64 t355] 27 (0, 0))) ∧ Aside0 (wc.heap[gb362]? = some (.cells #[.int .i64 t358, .string t359, .int .i64 t360] 27 (0, 0))) ∧ Aside0 (wc.heap[gb367]? = some (.cells #[.int .i64 t363, .string t364, .int .i64 t365] 27 (0, 0))) ∧ Aside0 (Below w.heap.size w wc))
    case first =>
      have H := HC7.out
      clear HC7
      by_cases c21 : (t361 != t366) = true
      · rw [if_pos c21] at H
        have c21b0 : (t361 != t366) = true := c21
        (try (have c21b1 : decide (t361 = t366) = false := by simpa using c21))
        (try (have c21b2 : (t361 == t366) = false := by simpa using c21))
        (try (have c21b3 : ¬ (t361 = t366) := by simpa using c21))
        clear c21
        (first | rw [c21b0] | (simp only [i64_w, i32_w]; rw [c21b0]) | rw [c21b1] | skip)
        have H' := Aside0.mk H
        clear H
        go_wp2
        go_meet
        case rel => exact ⟨_, (true), (by first | rfl | (simp; done) | (simp [*]; done)), H', ⟨by first | omega | exact Nat.le_refl _⟩, ⟨by (with_reducible repeat (first | refine blk_drewN ?_ _ | refine blk_drew ?_ | refine blk_alloc ?_ _)); refine blk_far ?_ NB357_367.out _; (with_reducible repeat (first | refine blk_drewN ?_ _ | refine blk_drew ?_ | refine blk_alloc ?_ _)); refine blk_far ?_ NB357_367.out _; (with_reducible repeat (first | refine blk_drewN ?_ _ | refine blk_drew ?_ | refine blk_alloc ?_ _)); refine blk_far ?_ NB357_367.out _; (with_reducible repeat (first | refine blk_drewN ?_ _ | refine blk_drew ?_ | refine blk_alloc ?_ _)); exact BK357.out⟩, ⟨by (with_reducible repeat (first | refine blk_drewN ?_ _ | refine blk_drew ?_ | refine blk_alloc ?_ _)); refine blk_far ?_ NB362_367.out _; (with_reducible repeat (first | refine blk_drewN ?_ _ | refine blk_drew ?_ | refine blk_alloc ?_ _)); refine blk_far ?_ NB362_367.out _; (with_reducible repeat (first | refine blk_drewN ?_ _ | refine blk_drew ?_ | refine blk_alloc ?_ _)); refine blk_far ?_ NB362_367.out _; (with_reducible repeat (first | refine blk_drewN ?_ _ | refine blk_drew ?_ | refine blk_alloc ?_ _)); exact BK362.out⟩, ⟨by (with_reducible repeat (first | refine blk_drewN ?_ _ | refine blk_drew ?_ | refine blk_alloc ?_ _)); refine blk_put (cs := #[.int .i64 t363, .string t364, .int .i64 0]) ?_ 2 _ rfl; (with_reducible repeat (first | refine blk_drewN ?_ _ | refine blk_drew ?_ | refine blk_alloc ?_ _)); refine blk_put (cs := #[.int .i64 t363, .string (⟨#[]⟩ : ByteArray), .int .i64 0]) ?_ 1 _ rfl; (with_reducible repeat (first | refine blk_drewN ?_ _ | refine blk_drew ?_ | refine blk_alloc ?_ _)); refine blk_put (cs := #[.int .i64 0, .string (⟨#[]⟩ : ByteArray), .int .i64 0]) ?_ 0 _ rfl; (with_reducible repeat (first | refine blk_drewN ?_ _ | refine blk_drew ?_ | refine blk_alloc ?_ _)); exact BK367.out⟩, ⟨by repeat (first | (with_reducible first | exact HB.out | apply below_alloc | apply pw_below_drewN | apply below_drew1 | refine below_set ?_ GE357.out | refine below_set ?_ GE362.out | refine below_set ?_ GE367.out) | exact HB.out)⟩⟩
      · rw [if_neg c21] at H
        have c21b0 : (t361 != t366) = false := by simpa using c21
        (try (have c21b1 : decide (t361 = t366) = true := by simpa using c21))
        (try (have c21b2 : (t361 == t366) = true := by simpa using c21))
        clear c21
        (first | rw [c21b0] | (simp only [i64_w, i32_w]; rw [c21b0]) | rw [c21b1] | skip)
        have H' := Aside0.mk H
        clear H
        have hnb22 := NB362_357.out
        have hnc22 := NB357_362.out
        have hnb23 := NB362_367.out
        have hnc23 := NB367_362.out
        have hcz24_0 : w17.cell? ⟨gb362, 0, none⟩ = some (.int .i64 t358) := (blk_cell BK362.out 0).trans rfl
        have hcz24_1 : w17.cell? ⟨gb362, 1, none⟩ = some (.string t359) := (blk_cell BK362.out 1).trans rfl
        have hcz24_2 : w17.cell? ⟨gb362, 2, none⟩ = some (.int .i64 t360) := (blk_cell BK362.out 2).trans rfl
        have hfz24_0 := blk_frozen BK362.out 0
        have hfz24_1 := blk_frozen BK362.out 1
        have hfz24_2 := blk_frozen BK362.out 2
        have hnb25 := NB367_357.out
        have hnc25 := NB357_367.out
        have hcz26_0 : w17.cell? ⟨gb367, 0, none⟩ = some (.int .i64 0) := (blk_cell BK367.out 0).trans rfl
        have hcz26_1 : w17.cell? ⟨gb367, 1, none⟩ = some (.string (⟨#[]⟩ : ByteArray)) := (blk_cell BK367.out 1).trans rfl
        have hcz26_2 : w17.cell? ⟨gb367, 2, none⟩ = some (.int .i64 0) := (blk_cell BK367.out 2).trans rfl
        have hfz26_0 := blk_frozen BK367.out 0
        have hfz26_1 := blk_frozen BK367.out 1
        have hfz26_2 := blk_frozen BK367.out 2
        go_wp2
        go_meet
        case rel => exact ⟨_, ((!(t358 == t363) || (!(t359.toList == t364.toList) || (!(t360 == t365))))), (by first | rfl | (simp; done) | (simp [*]; done)), H', ⟨by first | omega | exact Nat.le_refl _⟩, ⟨by (with_reducible repeat (first | refine blk_drewN ?_ _ | refine blk_drew ?_ | refine blk_alloc ?_ _)); refine blk_far ?_ NB357_367.out _; (with_reducible repeat (first | refine blk_drewN ?_ _ | refine blk_drew ?_ | refine blk_alloc ?_ _)); refine blk_far ?_ NB357_367.out _; (with_reducible repeat (first | refine blk_drewN ?_ _ | refine blk_drew ?_ | refine blk_alloc ?_ _)); refine blk_far ?_ NB357_367.out _; (with_reducible repeat (first | refine blk_drewN ?_ _ | refine blk_drew ?_ | refine blk_alloc ?_ _)); exact BK357.out⟩, ⟨by (with_reducible repeat (first | refine blk_drewN ?_ _ | refine blk_drew ?_ | refine blk_alloc ?_ _)); refine blk_far ?_ NB362_367.out _; (with_reducible repeat (first | refine blk_drewN ?_ _ | refine blk_drew ?_ | refine blk_alloc ?_ _)); refine blk_far ?_ NB362_367.out _; (with_reducible repeat (first | refine blk_drewN ?_ _ | refine blk_drew ?_ | refine blk_alloc ?_ _)); refine blk_far ?_ NB362_367.out _; (with_reducible repeat (first | refine blk_drewN ?_ _ | refine blk_drew ?_ | refine blk_alloc ?_ _)); exact BK362.out⟩, ⟨by (with_reducible repeat (first | refine blk_drewN ?_ _ | refine blk_drew ?_ | refine blk_alloc ?_ _)); refine blk_put (cs := #[.int .i64 t363, .string t364, .int .i64 0]) ?_ 2 _ rfl; (with_reducible repeat (first | refine blk_drewN ?_ _ | refine blk_drew ?_ | refine blk_alloc ?_ _)); refine blk_put (cs := #[.int .i64 t363, .string (⟨#[]⟩ : ByteArray), .int .i64 0]) ?_ 1 _ rfl; (with_reducible repeat (first | refine blk_drewN ?_ _ | refine blk_drew ?_ | refine blk_alloc ?_ _)); refine blk_put (cs := #[.int .i64 0, .string (⟨#[]⟩ : ByteArray), .int .i64 0]) ?_ 0 _ rfl; (with_reducible repeat (first | refine blk_drewN ?_ _ | refine blk_drew ?_ | refine blk_alloc ?_ _)); exact BK367.out⟩, ⟨by repeat (first | (with_reducible first | exact HB.out | apply below_alloc | apply pw_below_drewN | apply below_drew1 | refine below_set ?_ GE357.out | refine below_set ?_ GE362.out | refine below_set ?_ GE367.out) | exact HB.out)⟩⟩
    case rest =>
      clear HC7
      try clear c1
      try clear c2
      try clear p2
      try clear c3
      try clear c3b0
      try clear p6
      try clear c11
      try clear c13
      try clear c18
      try clear c19
      try clear c21
      try clear c21b0
      try clear c21b1
      try clear c21b2
      try clear c22
      try clear c23
      try clear c25
      try clear c26
      try clear hcz10_0
      try clear hcz10_1
      try clear hcz10_2
      try clear hcz14_0
      try clear hcz14_1
      try clear hcz14_2
      try clear hcz15_0
      try clear hcz15_1
      try clear hcz15_2
      try clear hcz20_0
      try clear hcz20_1
      try clear hcz20_2
      try clear hcz24_0
      try clear hcz24_1
      try clear hcz24_2
      try clear hcz26_0
      try clear hcz26_1
      try clear hcz26_2
      try clear hfz10_0
      try clear hfz10_1
      try clear hfz10_2
      try clear hfz14_0
      try clear hfz14_1
      try clear hfz14_2
      try clear hfz15_0
      try clear hfz15_1
      try clear hfz15_2
      try clear hfz20_0
      try clear hfz20_1
      try clear hfz20_2
      try clear hfz24_0
      try clear hfz24_1
      try clear hfz24_2
      try clear hfz26_0
      try clear hfz26_1
      try clear hfz26_2
      obtain ⟨kq, x59_6, rfl, HA, HJ6, BK357, BK362, BK367, HB⟩ := hcut
      cases kq with
      | zero => exact absurd HA.out (by simp [laws_FnBloom.j0])
      | succ kj6 =>
        have H := HA.out
        clear HA
        simp only [laws_FnBloom.j0] at H
        by_cases c27 : x59_6 = true
        · subst c27
          have H1 : (some false) = some r := by rw [if_pos rfl] at H; exact H
          clear H
          have H := H1
          clear H1
          obtain rfl := Option.some.inj H
          go_wp2
          go_ret
          exact ⟨by first | rfl | (simp [errW_none, errW_some] <;> rfl) | (simp [*, errW_none, errW_some] <;> rfl), by repeat (first | (with_reducible first | exact HB.out | apply below_alloc | apply pw_below_drewN | apply below_drew1 | refine below_set ?_ GE357.out | refine below_set ?_ GE362.out | refine below_set ?_ GE367.out) | exact HB.out)⟩
        · replace c27 := Bool.eq_false_iff.mpr c27
          subst c27
          have H1 : (if t361 = true then ((impl_MayHave.f kj6 t358 t359 t360 t356).bind fun bt368 => ((impl_OnesIn.f kj6 t353 t354 t355).bind fun bt370 => ((impl_OnesIn.f kj6 t358 t359 t360).bind fun bt372 => (if bt368.2 = true then (if bt370.2 = true then (if bt372.2 = true then (if bt368.1 = true then (if bt372.1 < bt370.1 then (some false) else (if bt372.1 > (wrap64 (bt370.1 + t353)) then (some false) else (laws_FnBloom.j1 kj6 l1))) else (some false)) else (some false)) else (some false)) else (some false))))) else (laws_FnBloom.j1 kj6 l1)) = some r := by rw [if_neg (show ¬ (false = true) by decide)] at H; exact H
          clear H
          have H := H1
          clear H1
          have HC28 := Aside0.mk H
          clear H
          go_upto_if 60 with (fail)
          go_cut [] (fun wc => ∃ (kq : Nat), Aside0 (laws_FnBloom.j1 kq l1 = some r) ∧ Aside0 (kq ≤ kj6) ∧ Aside0 (wc.heap[gb357]? = some (.cells #[.int .i64 t353, .string t354, .int .i64 t355] 27 (0, 0))) ∧ Aside0 (wc.heap[gb362]? = some (.cells #[.int .i64 t358, .string t359, .int .i64 t360] 27 (0, 0))) ∧ Aside0 (wc.heap[gb367]? = some (.cells #[.int .i64 t363, .string t364, .int .i64 t365] 27 (0, 0))) ∧ Aside0 (Below w.heap.size w wc))
          case first =>
            have H := HC28.out
            clear HC28
            by_cases c29 : t361 = true
            · subst c29
              have H1 : ((impl_MayHave.f kj6 t358 t359 t360 t356).bind fun bt368 => ((impl_OnesIn.f kj6 t353 t354 t355).bind fun bt370 => ((impl_OnesIn.f kj6 t358 t359 t360).bind fun bt372 => (if bt368.2 = true then (if bt370.2 = true then (if bt372.2 = true then (if bt368.1 = true then (if bt372.1 < bt370.1 then (some false) else (if bt372.1 > (wrap64 (bt370.1 + t353)) then (some false) else (laws_FnBloom.j1 kj6 l1))) else (some false)) else (some false)) else (some false)) else (some false))))) = some r := by rw [if_pos rfl] at H; exact H
              clear H
              have H := H1
              clear H1
              replace H := Option.bind_eq_some_iff.mp H
              obtain ⟨⟨t368, t369⟩, A300, H⟩ := H
              replace H : ((impl_OnesIn.f kj6 t353 t354 t355).bind fun bt370 => ((impl_OnesIn.f kj6 t358 t359 t360).bind fun bt372 => (if t369 = true then (if bt370.2 = true then (if bt372.2 = true then (if t368 = true then (if bt372.1 < bt370.1 then (some false) else (if bt372.1 > (wrap64 (bt370.1 + t353)) then (some false) else (laws_FnBloom.j1 kj6 l1))) else (some false)) else (some false)) else (some false)) else (some false)))) = some r := H
              have A30 := Aside0.mk A300
              clear A300
              replace H := Option.bind_eq_some_iff.mp H
              obtain ⟨⟨t370, t371⟩, A310, H⟩ := H
              replace H : ((impl_OnesIn.f kj6 t358 t359 t360).bind fun bt372 => (if t369 = true then (if t371 = true then (if bt372.2 = true then (if t368 = true then (if bt372.1 < t370 then (some false) else (if bt372.1 > (wrap64 (t370 + t353)) then (some false) else (laws_FnBloom.j1 kj6 l1))) else (some false)) else (some false)) else (some false)) else (some false))) = some r := H
              have A31 := Aside0.mk A310
              clear A310
              replace H := Option.bind_eq_some_iff.mp H
              obtain ⟨⟨t372, t373⟩, A320, H⟩ := H
              replace H : (if t369 = true then (if t371 = true then (if t373 = true then (if t368 = true then (if t372 < t370 then (some false) else (if t372 > (wrap64 (t370 + t353)) then (some false) else (laws_FnBloom.j1 kj6 l1))) else (some false)) else (some false)) else (some false)) else (some false)) = some r := H
              have A32 := Aside0.mk A320
              clear A320
              by_cases c33 : t369 = true
              · subst c33
                have H1 : (if t371 = true then (if t373 = true then (if t368 = true then (if t372 < t370 then (some false) else (if t372 > (wrap64 (t370 + t353)) then (some false) else (laws_FnBloom.j1 kj6 l1))) else (some false)) else (some false)) else (some false)) = some r := by rw [if_pos rfl] at H; exact H
                clear H
                have H := H1
                clear H1
                by_cases c34 : t371 = true
                · subst c34
                  have H1 : (if t373 = true then (if t368 = true then (if t372 < t370 then (some false) else (if t372 > (wrap64 (t370 + t353)) then (some false) else (laws_FnBloom.j1 kj6 l1))) else (some false)) else (some false)) = some r := by rw [if_pos rfl] at H; exact H
                  clear H
                  have H := H1
                  clear H1
                  by_cases c35 : t373 = true
                  · subst c35
                    have H1 : (if t368 = true then (if t372 < t370 then (some false) else (if t372 > (wrap64 (t370 + t353)) then (some false) else (laws_FnBloom.j1 kj6 l1))) else (some false)) = some r := by rw [if_pos rfl] at H; exact H
                    clear H
                    have H := H1
                    clear H1
                    by_cases c36 : t368 = true
                    · subst c36
                      have H1 : (if t372 < t370 then (some false) else (if t372 > (wrap64 (t370 + t353)) then (some false) else (laws_FnBloom.j1 kj6 l1))) = some r := by rw [if_pos rfl] at H; exact H
                      clear H
                      have H := H1
                      clear H1
                      by_cases c37 : t372 < t370
                      · rw [if_pos c37] at H
                        have c37b0 : decide (t372 < t370) = true := decide_eq_true c37
                        clear c37
                        (first | rw [c37b0] | (simp only [i64_w, i32_w]; rw [c37b0]) | rw [c37b1] | skip)
                        obtain rfl := Option.some.inj H
                        have hnb38 := NB362_357.out
                        have hnc38 := NB357_362.out
                        have hnb39 := NB362_367.out
                        have hnc39 := NB367_362.out
                        have hcz40_0 : wc.cell? ⟨gb362, 0, none⟩ = some (.int .i64 t358) := (blk_cell BK362.out 0).trans rfl
                        have hcz40_1 : wc.cell? ⟨gb362, 1, none⟩ = some (.string t359) := (blk_cell BK362.out 1).trans rfl
                        have hcz40_2 : wc.cell? ⟨gb362, 2, none⟩ = some (.int .i64 t360) := (blk_cell BK362.out 2).trans rfl
                        have hfz40_0 := blk_frozen BK362.out 0
                        have hfz40_1 := blk_frozen BK362.out 1
                        have hfz40_2 := blk_frozen BK362.out 2
                        go_wp2_with (first | ((with_reducible refine gate_callee (f := 25) rfl ?_); refine goesL_ (some 64) rfl rfl Try.func25 (by kernel_rfl) rfl #[.agg #[.int .i64 t358, .string t359, .int .i64 t360], .string t356] rfl (by (try simp only [List.map_toArray, List.map_cons, List.map_nil]); first | done | rfl | (simp only [List.length_drop, List.length_take]; rfl)) ?_; (with_reducible refine (impl_MayHave.calls kj6 t358 t359 t360 t356 true true _ A30.out).mono ?_); rintro e w41 ⟨rfl, hb⟩; refine ⟨_, rfl, ?_⟩; have n0_ := Aside0.mk (blk_below (g := gb357) (o := .cells #[.int .i64 t353, .string t354, .int .i64 t355] 27 (0, 0)) (by (with_reducible repeat (first | refine blk_drewN ?_ _ | refine blk_drew ?_ | refine blk_alloc ?_ _)); exact BK357.out) hb); have n1_ := Aside0.mk (blk_below (g := gb362) (o := .cells #[.int .i64 t358, .string t359, .int .i64 t360] 27 (0, 0)) (by (with_reducible repeat (first | refine blk_drewN ?_ _ | refine blk_drew ?_ | refine blk_alloc ?_ _)); exact BK362.out) hb); have n2_ := Aside0.mk (blk_below (g := gb367) (o := .cells #[.int .i64 t363, .string t364, .int .i64 t365] 27 (0, 0)) (by (with_reducible repeat (first | refine blk_drewN ?_ _ | refine blk_drew ?_ | refine blk_alloc ?_ _)); exact BK367.out) hb); have n3_ := Aside0.mk (below_step (by repeat (first | (with_reducible first | exact HB.out | apply below_alloc | apply pw_below_drewN | apply below_drew1 | refine below_set ?_ GE357.out | refine below_set ?_ GE362.out | refine below_set ?_ GE367.out) | exact HB.out)) hb); clear BK357; clear BK362; clear BK367; clear HB; have BK357 := n0_; have BK362 := n1_; have BK367 := n2_; have HB := n3_; clear n0_ n1_ n2_ n3_; (try clear hb); (try clear hb2); (try clear hk); (try clear hi); have hnb42 := NB357_367.out; have hnc42 := NB367_357.out; have hcz43_0 : w41.cell? ⟨gb357, 0, none⟩ = some (.int .i64 t353) := (blk_cell BK357.out 0).trans rfl; have hcz43_1 : w41.cell? ⟨gb357, 1, none⟩ = some (.string t354) := (blk_cell BK357.out 1).trans rfl; have hcz43_2 : w41.cell? ⟨gb357, 2, none⟩ = some (.int .i64 t355) := (blk_cell BK357.out 2).trans rfl; have hfz43_0 := blk_frozen BK357.out 0; have hfz43_1 := blk_frozen BK357.out 1; have hfz43_2 := blk_frozen BK357.out 2) | ((with_reducible refine gate_callee (f := 15) rfl ?_); refine goesL_ (some 69) rfl rfl Try.func15 (by kernel_rfl) rfl #[.agg #[.int .i64 t353, .string t354, .int .i64 t355]] rfl (by (try simp only [List.map_toArray, List.map_cons, List.map_nil]); first | done | rfl | (simp only [List.length_drop, List.length_take]; rfl)) ?_; (with_reducible refine (impl_OnesIn.calls kj6 t353 t354 t355 t370 true _ A31.out).mono ?_); rintro e w44 ⟨rfl, hb⟩; refine ⟨_, rfl, ?_⟩; have n0_ := Aside0.mk (blk_below (g := gb357) (o := .cells #[.int .i64 t353, .string t354, .int .i64 t355] 27 (0, 0)) (by (with_reducible repeat (first | refine blk_drewN ?_ _ | refine blk_drew ?_ | refine blk_alloc ?_ _)); exact BK357.out) hb); have n1_ := Aside0.mk (blk_below (g := gb362) (o := .cells #[.int .i64 t358, .string t359, .int .i64 t360] 27 (0, 0)) (by (with_reducible repeat (first | refine blk_drewN ?_ _ | refine blk_drew ?_ | refine blk_alloc ?_ _)); exact BK362.out) hb); have n2_ := Aside0.mk (blk_below (g := gb367) (o := .cells #[.int .i64 t363, .string t364, .int .i64 t365] 27 (0, 0)) (by (with_reducible repeat (first | refine blk_drewN ?_ _ | refine blk_drew ?_ | refine blk_alloc ?_ _)); exact BK367.out) hb); have n3_ := Aside0.mk (below_step (by repeat (first | (with_reducible first | exact HB.out | apply below_alloc | apply pw_below_drewN | apply below_drew1 | refine below_set ?_ GE357.out | refine below_set ?_ GE362.out | refine below_set ?_ GE367.out) | exact HB.out)) hb); clear BK357; clear BK362; clear BK367; clear HB; have BK357 := n0_; have BK362 := n1_; have BK367 := n2_; have HB := n3_; clear n0_ n1_ n2_ n3_; (try clear hb); (try clear hb2); (try clear hk); (try clear hi); have hcz45_0 : w44.cell? ⟨gb362, 0, none⟩ = some (.int .i64 t358) := (blk_cell BK362.out 0).trans rfl; have hcz45_1 : w44.cell? ⟨gb362, 1, none⟩ = some (.string t359) := (blk_cell BK362.out 1).trans rfl; have hcz45_2 : w44.cell? ⟨gb362, 2, none⟩ = some (.int .i64 t360) := (blk_cell BK362.out 2).trans rfl; have hfz45_0 := blk_frozen BK362.out 0; have hfz45_1 := blk_frozen BK362.out 1; have hfz45_2 := blk_frozen BK362.out 2) | ((with_reducible refine gate_callee (f := 15) rfl ?_); refine goesL_ (some 74) rfl rfl Try.func15 (by kernel_rfl) rfl #[.agg #[.int .i64 t358, .string t359, .int .i64 t360]] rfl (by (try simp only [List.map_toArray, List.map_cons, List.map_nil]); first | done | rfl | (simp only [List.length_drop, List.length_take]; rfl)) ?_; (with_reducible refine (impl_OnesIn.calls kj6 t358 t359 t360 t372 true _ A32.out).mono ?_); rintro e w46 ⟨rfl, hb⟩; refine ⟨_, rfl, ?_⟩; have n0_ := Aside0.mk (blk_below (g := gb357) (o := .cells #[.int .i64 t353, .string t354, .int .i64 t355] 27 (0, 0)) (by (with_reducible repeat (first | refine blk_drewN ?_ _ | refine blk_drew ?_ | refine blk_alloc ?_ _)); exact BK357.out) hb); have n1_ := Aside0.mk (blk_below (g := gb362) (o := .cells #[.int .i64 t358, .string t359, .int .i64 t360] 27 (0, 0)) (by (with_reducible repeat (first | refine blk_drewN ?_ _ | refine blk_drew ?_ | refine blk_alloc ?_ _)); exact BK362.out) hb); have n2_ := Aside0.mk (blk_below (g := gb367) (o := .cells #[.int .i64 t363, .string t364, .int .i64 t365] 27 (0, 0)) (by (with_reducible repeat (first | refine blk_drewN ?_ _ | refine blk_drew ?_ | refine blk_alloc ?_ _)); exact BK367.out) hb); have n3_ := Aside0.mk (below_step (by repeat (first | (with_reducible first | exact HB.out | apply below_alloc | apply pw_below_drewN | apply below_drew1 | refine below_set ?_ GE357.out | refine below_set ?_ GE362.out | refine below_set ?_ GE367.out) | exact HB.out)) hb); clear BK357; clear BK362; clear BK367; clear HB; have BK357 := n0_; have BK362 := n1_; have BK367 := n2_; have HB := n3_; clear n0_ n1_ n2_ n3_; (try clear hb); (try clear hb2); (try clear hk); (try clear hi)))
                        go_ret
                        exact ⟨by first | rfl | (simp [errW_none, errW_some] <;> rfl) | (simp [*, errW_none, errW_some] <;> rfl), by repeat (first | (with_reducible first | exact HB.out | apply below_alloc | apply pw_below_drewN | apply below_drew1 | refine below_set ?_ GE357.out | refine below_set ?_ GE362.out | refine below_set ?_ GE367.out) | exact HB.out)⟩
                      · rw [if_neg c37] at H
                        have c37b0 : decide (t372 < t370) = false := decide_eq_false c37
                        clear c37
                        (first | rw [c37b0] | (simp only [i64_w, i32_w]; rw [c37b0]) | rw [c37b1] | skip)
                        by_cases c47 : t372 > (wrap64 (t370 + t353))
                        · rw [if_pos c47] at H
                          have c47b0 : decide ((wrap64 (t370 + t353)) < t372) = true := decide_eq_true c47
                          clear c47
                          obtain rfl := Option.some.inj H
                          have hnb48 := NB362_357.out
                          have hnc48 := NB357_362.out
                          have hnb49 := NB362_367.out
                          have hnc49 := NB367_362.out
                          have hcz50_0 : wc.cell? ⟨gb362, 0, none⟩ = some (.int .i64 t358) := (blk_cell BK362.out 0).trans rfl
                          have hcz50_1 : wc.cell? ⟨gb362, 1, none⟩ = some (.string t359) := (blk_cell BK362.out 1).trans rfl
                          have hcz50_2 : wc.cell? ⟨gb362, 2, none⟩ = some (.int .i64 t360) := (blk_cell BK362.out 2).trans rfl
                          have hfz50_0 := blk_frozen BK362.out 0
                          have hfz50_1 := blk_frozen BK362.out 1
                          have hfz50_2 := blk_frozen BK362.out 2
                          go_wp2_with (first | ((with_reducible refine gate_callee (f := 25) rfl ?_); refine goesL_ (some 64) rfl rfl Try.func25 (by kernel_rfl) rfl #[.agg #[.int .i64 t358, .string t359, .int .i64 t360], .string t356] rfl (by (try simp only [List.map_toArray, List.map_cons, List.map_nil]); first | done | rfl | (simp only [List.length_drop, List.length_take]; rfl)) ?_; (with_reducible refine (impl_MayHave.calls kj6 t358 t359 t360 t356 true true _ A30.out).mono ?_); rintro e w51 ⟨rfl, hb⟩; refine ⟨_, rfl, ?_⟩; have n0_ := Aside0.mk (blk_below (g := gb357) (o := .cells #[.int .i64 t353, .string t354, .int .i64 t355] 27 (0, 0)) (by (with_reducible repeat (first | refine blk_drewN ?_ _ | refine blk_drew ?_ | refine blk_alloc ?_ _)); exact BK357.out) hb); have n1_ := Aside0.mk (blk_below (g := gb362) (o := .cells #[.int .i64 t358, .string t359, .int .i64 t360] 27 (0, 0)) (by (with_reducible repeat (first | refine blk_drewN ?_ _ | refine blk_drew ?_ | refine blk_alloc ?_ _)); exact BK362.out) hb); have n2_ := Aside0.mk (blk_below (g := gb367) (o := .cells #[.int .i64 t363, .string t364, .int .i64 t365] 27 (0, 0)) (by (with_reducible repeat (first | refine blk_drewN ?_ _ | refine blk_drew ?_ | refine blk_alloc ?_ _)); exact BK367.out) hb); have n3_ := Aside0.mk (below_step (by repeat (first | (with_reducible first | exact HB.out | apply below_alloc | apply pw_below_drewN | apply below_drew1 | refine below_set ?_ GE357.out | refine below_set ?_ GE362.out | refine below_set ?_ GE367.out) | exact HB.out)) hb); clear BK357; clear BK362; clear BK367; clear HB; have BK357 := n0_; have BK362 := n1_; have BK367 := n2_; have HB := n3_; clear n0_ n1_ n2_ n3_; (try clear hb); (try clear hb2); (try clear hk); (try clear hi); have hnb52 := NB357_367.out; have hnc52 := NB367_357.out; have hcz53_0 : w51.cell? ⟨gb357, 0, none⟩ = some (.int .i64 t353) := (blk_cell BK357.out 0).trans rfl; have hcz53_1 : w51.cell? ⟨gb357, 1, none⟩ = some (.string t354) := (blk_cell BK357.out 1).trans rfl; have hcz53_2 : w51.cell? ⟨gb357, 2, none⟩ = some (.int .i64 t355) := (blk_cell BK357.out 2).trans rfl; have hfz53_0 := blk_frozen BK357.out 0; have hfz53_1 := blk_frozen BK357.out 1; have hfz53_2 := blk_frozen BK357.out 2) | ((with_reducible refine gate_callee (f := 15) rfl ?_); refine goesL_ (some 69) rfl rfl Try.func15 (by kernel_rfl) rfl #[.agg #[.int .i64 t353, .string t354, .int .i64 t355]] rfl (by (try simp only [List.map_toArray, List.map_cons, List.map_nil]); first | done | rfl | (simp only [List.length_drop, List.length_take]; rfl)) ?_; (with_reducible refine (impl_OnesIn.calls kj6 t353 t354 t355 t370 true _ A31.out).mono ?_); rintro e w54 ⟨rfl, hb⟩; refine ⟨_, rfl, ?_⟩; have n0_ := Aside0.mk (blk_below (g := gb357) (o := .cells #[.int .i64 t353, .string t354, .int .i64 t355] 27 (0, 0)) (by (with_reducible repeat (first | refine blk_drewN ?_ _ | refine blk_drew ?_ | refine blk_alloc ?_ _)); exact BK357.out) hb); have n1_ := Aside0.mk (blk_below (g := gb362) (o := .cells #[.int .i64 t358, .string t359, .int .i64 t360] 27 (0, 0)) (by (with_reducible repeat (first | refine blk_drewN ?_ _ | refine blk_drew ?_ | refine blk_alloc ?_ _)); exact BK362.out) hb); have n2_ := Aside0.mk (blk_below (g := gb367) (o := .cells #[.int .i64 t363, .string t364, .int .i64 t365] 27 (0, 0)) (by (with_reducible repeat (first | refine blk_drewN ?_ _ | refine blk_drew ?_ | refine blk_alloc ?_ _)); exact BK367.out) hb); have n3_ := Aside0.mk (below_step (by repeat (first | (with_reducible first | exact HB.out | apply below_alloc | apply pw_below_drewN | apply below_drew1 | refine below_set ?_ GE357.out | refine below_set ?_ GE362.out | refine below_set ?_ GE367.out) | exact HB.out)) hb); clear BK357; clear BK362; clear BK367; clear HB; have BK357 := n0_; have BK362 := n1_; have BK367 := n2_; have HB := n3_; clear n0_ n1_ n2_ n3_; (try clear hb); (try clear hb2); (try clear hk); (try clear hi); have hcz55_0 : w54.cell? ⟨gb362, 0, none⟩ = some (.int .i64 t358) := (blk_cell BK362.out 0).trans rfl; have hcz55_1 : w54.cell? ⟨gb362, 1, none⟩ = some (.string t359) := (blk_cell BK362.out 1).trans rfl; have hcz55_2 : w54.cell? ⟨gb362, 2, none⟩ = some (.int .i64 t360) := (blk_cell BK362.out 2).trans rfl; have hfz55_0 := blk_frozen BK362.out 0; have hfz55_1 := blk_frozen BK362.out 1; have hfz55_2 := blk_frozen BK362.out 2) | ((with_reducible refine gate_callee (f := 15) rfl ?_); refine goesL_ (some 74) rfl rfl Try.func15 (by kernel_rfl) rfl #[.agg #[.int .i64 t358, .string t359, .int .i64 t360]] rfl (by (try simp only [List.map_toArray, List.map_cons, List.map_nil]); first | done | rfl | (simp only [List.length_drop, List.length_take]; rfl)) ?_; (with_reducible refine (impl_OnesIn.calls kj6 t358 t359 t360 t372 true _ A32.out).mono ?_); rintro e w56 ⟨rfl, hb⟩; refine ⟨_, rfl, ?_⟩; have n0_ := Aside0.mk (blk_below (g := gb357) (o := .cells #[.int .i64 t353, .string t354, .int .i64 t355] 27 (0, 0)) (by (with_reducible repeat (first | refine blk_drewN ?_ _ | refine blk_drew ?_ | refine blk_alloc ?_ _)); exact BK357.out) hb); have n1_ := Aside0.mk (blk_below (g := gb362) (o := .cells #[.int .i64 t358, .string t359, .int .i64 t360] 27 (0, 0)) (by (with_reducible repeat (first | refine blk_drewN ?_ _ | refine blk_drew ?_ | refine blk_alloc ?_ _)); exact BK362.out) hb); have n2_ := Aside0.mk (blk_below (g := gb367) (o := .cells #[.int .i64 t363, .string t364, .int .i64 t365] 27 (0, 0)) (by (with_reducible repeat (first | refine blk_drewN ?_ _ | refine blk_drew ?_ | refine blk_alloc ?_ _)); exact BK367.out) hb); have n3_ := Aside0.mk (below_step (by repeat (first | (with_reducible first | exact HB.out | apply below_alloc | apply pw_below_drewN | apply below_drew1 | refine below_set ?_ GE357.out | refine below_set ?_ GE362.out | refine below_set ?_ GE367.out) | exact HB.out)) hb); clear BK357; clear BK362; clear BK367; clear HB; have BK357 := n0_; have BK362 := n1_; have BK367 := n2_; have HB := n3_; clear n0_ n1_ n2_ n3_; (try clear hb); (try clear hb2); (try clear hk); (try clear hi); have hcz57_0 : w56.cell? ⟨gb357, 0, none⟩ = some (.int .i64 t353) := (blk_cell BK357.out 0).trans rfl; have hcz57_1 : w56.cell? ⟨gb357, 1, none⟩ = some (.string t354) := (blk_cell BK357.out 1).trans rfl; have hcz57_2 : w56.cell? ⟨gb357, 2, none⟩ = some (.int .i64 t355) := (blk_cell BK357.out 2).trans rfl; have hfz57_0 := blk_frozen BK357.out 0; have hfz57_1 := blk_frozen BK357.out 1; have hfz57_2 := blk_frozen BK357.out 2))
                          go_ret
                          exact ⟨by first | rfl | (simp [errW_none, errW_some] <;> rfl) | (simp [*, errW_none, errW_some] <;> rfl), by repeat (first | (with_reducible first | exact HB.out | apply below_alloc | apply pw_below_drewN | apply below_drew1 | refine below_set ?_ GE357.out | refine below_set ?_ GE362.out | refine below_set ?_ GE367.out) | exact HB.out)⟩
                        · rw [if_neg c47] at H
                          have c47b0 : decide ((wrap64 (t370 + t353)) < t372) = false := decide_eq_false c47
                          clear c47
                          have H' := Aside0.mk H
                          clear H
                          have hnb58 := NB362_357.out
                          have hnc58 := NB357_362.out
                          have hnb59 := NB362_367.out
                          have hnc59 := NB367_362.out
                          have hcz60_0 : wc.cell? ⟨gb362, 0, none⟩ = some (.int .i64 t358) := (blk_cell BK362.out 0).trans rfl
                          have hcz60_1 : wc.cell? ⟨gb362, 1, none⟩ = some (.string t359) := (blk_cell BK362.out 1).trans rfl
                          have hcz60_2 : wc.cell? ⟨gb362, 2, none⟩ = some (.int .i64 t360) := (blk_cell BK362.out 2).trans rfl
                          have hfz60_0 := blk_frozen BK362.out 0
                          have hfz60_1 := blk_frozen BK362.out 1
                          have hfz60_2 := blk_frozen BK362.out 2
                          go_wp2_with (first | ((with_reducible refine gate_callee (f := 25) rfl ?_); refine goesL_ (some 64) rfl rfl Try.func25 (by kernel_rfl) rfl #[.agg #[.int .i64 t358, .string t359, .int .i64 t360], .string t356] rfl (by (try simp only [List.map_toArray, List.map_cons, List.map_nil]); first | done | rfl | (simp only [List.length_drop, List.length_take]; rfl)) ?_; (with_reducible refine (impl_MayHave.calls kj6 t358 t359 t360 t356 true true _ A30.out).mono ?_); rintro e w61 ⟨rfl, hb⟩; refine ⟨_, rfl, ?_⟩; have n0_ := Aside0.mk (blk_below (g := gb357) (o := .cells #[.int .i64 t353, .string t354, .int .i64 t355] 27 (0, 0)) (by (with_reducible repeat (first | refine blk_drewN ?_ _ | refine blk_drew ?_ | refine blk_alloc ?_ _)); exact BK357.out) hb); have n1_ := Aside0.mk (blk_below (g := gb362) (o := .cells #[.int .i64 t358, .string t359, .int .i64 t360] 27 (0, 0)) (by (with_reducible repeat (first | refine blk_drewN ?_ _ | refine blk_drew ?_ | refine blk_alloc ?_ _)); exact BK362.out) hb); have n2_ := Aside0.mk (blk_below (g := gb367) (o := .cells #[.int .i64 t363, .string t364, .int .i64 t365] 27 (0, 0)) (by (with_reducible repeat (first | refine blk_drewN ?_ _ | refine blk_drew ?_ | refine blk_alloc ?_ _)); exact BK367.out) hb); have n3_ := Aside0.mk (below_step (by repeat (first | (with_reducible first | exact HB.out | apply below_alloc | apply pw_below_drewN | apply below_drew1 | refine below_set ?_ GE357.out | refine below_set ?_ GE362.out | refine below_set ?_ GE367.out) | exact HB.out)) hb); clear BK357; clear BK362; clear BK367; clear HB; have BK357 := n0_; have BK362 := n1_; have BK367 := n2_; have HB := n3_; clear n0_ n1_ n2_ n3_; (try clear hb); (try clear hb2); (try clear hk); (try clear hi); have hnb62 := NB357_367.out; have hnc62 := NB367_357.out; have hcz63_0 : w61.cell? ⟨gb357, 0, none⟩ = some (.int .i64 t353) := (blk_cell BK357.out 0).trans rfl; have hcz63_1 : w61.cell? ⟨gb357, 1, none⟩ = some (.string t354) := (blk_cell BK357.out 1).trans rfl; have hcz63_2 : w61.cell? ⟨gb357, 2, none⟩ = some (.int .i64 t355) := (blk_cell BK357.out 2).trans rfl; have hfz63_0 := blk_frozen BK357.out 0; have hfz63_1 := blk_frozen BK357.out 1; have hfz63_2 := blk_frozen BK357.out 2) | ((with_reducible refine gate_callee (f := 15) rfl ?_); refine goesL_ (some 69) rfl rfl Try.func15 (by kernel_rfl) rfl #[.agg #[.int .i64 t353, .string t354, .int .i64 t355]] rfl (by (try simp only [List.map_toArray, List.map_cons, List.map_nil]); first | done | rfl | (simp only [List.length_drop, List.length_take]; rfl)) ?_; (with_reducible refine (impl_OnesIn.calls kj6 t353 t354 t355 t370 true _ A31.out).mono ?_); rintro e w64 ⟨rfl, hb⟩; refine ⟨_, rfl, ?_⟩; have n0_ := Aside0.mk (blk_below (g := gb357) (o := .cells #[.int .i64 t353, .string t354, .int .i64 t355] 27 (0, 0)) (by (with_reducible repeat (first | refine blk_drewN ?_ _ | refine blk_drew ?_ | refine blk_alloc ?_ _)); exact BK357.out) hb); have n1_ := Aside0.mk (blk_below (g := gb362) (o := .cells #[.int .i64 t358, .string t359, .int .i64 t360] 27 (0, 0)) (by (with_reducible repeat (first | refine blk_drewN ?_ _ | refine blk_drew ?_ | refine blk_alloc ?_ _)); exact BK362.out) hb); have n2_ := Aside0.mk (blk_below (g := gb367) (o := .cells #[.int .i64 t363, .string t364, .int .i64 t365] 27 (0, 0)) (by (with_reducible repeat (first | refine blk_drewN ?_ _ | refine blk_drew ?_ | refine blk_alloc ?_ _)); exact BK367.out) hb); have n3_ := Aside0.mk (below_step (by repeat (first | (with_reducible first | exact HB.out | apply below_alloc | apply pw_below_drewN | apply below_drew1 | refine below_set ?_ GE357.out | refine below_set ?_ GE362.out | refine below_set ?_ GE367.out) | exact HB.out)) hb); clear BK357; clear BK362; clear BK367; clear HB; have BK357 := n0_; have BK362 := n1_; have BK367 := n2_; have HB := n3_; clear n0_ n1_ n2_ n3_; (try clear hb); (try clear hb2); (try clear hk); (try clear hi); have hcz65_0 : w64.cell? ⟨gb362, 0, none⟩ = some (.int .i64 t358) := (blk_cell BK362.out 0).trans rfl; have hcz65_1 : w64.cell? ⟨gb362, 1, none⟩ = some (.string t359) := (blk_cell BK362.out 1).trans rfl; have hcz65_2 : w64.cell? ⟨gb362, 2, none⟩ = some (.int .i64 t360) := (blk_cell BK362.out 2).trans rfl; have hfz65_0 := blk_frozen BK362.out 0; have hfz65_1 := blk_frozen BK362.out 1; have hfz65_2 := blk_frozen BK362.out 2) | ((with_reducible refine gate_callee (f := 15) rfl ?_); refine goesL_ (some 74) rfl rfl Try.func15 (by kernel_rfl) rfl #[.agg #[.int .i64 t358, .string t359, .int .i64 t360]] rfl (by (try simp only [List.map_toArray, List.map_cons, List.map_nil]); first | done | rfl | (simp only [List.length_drop, List.length_take]; rfl)) ?_; (with_reducible refine (impl_OnesIn.calls kj6 t358 t359 t360 t372 true _ A32.out).mono ?_); rintro e w66 ⟨rfl, hb⟩; refine ⟨_, rfl, ?_⟩; have n0_ := Aside0.mk (blk_below (g := gb357) (o := .cells #[.int .i64 t353, .string t354, .int .i64 t355] 27 (0, 0)) (by (with_reducible repeat (first | refine blk_drewN ?_ _ | refine blk_drew ?_ | refine blk_alloc ?_ _)); exact BK357.out) hb); have n1_ := Aside0.mk (blk_below (g := gb362) (o := .cells #[.int .i64 t358, .string t359, .int .i64 t360] 27 (0, 0)) (by (with_reducible repeat (first | refine blk_drewN ?_ _ | refine blk_drew ?_ | refine blk_alloc ?_ _)); exact BK362.out) hb); have n2_ := Aside0.mk (blk_below (g := gb367) (o := .cells #[.int .i64 t363, .string t364, .int .i64 t365] 27 (0, 0)) (by (with_reducible repeat (first | refine blk_drewN ?_ _ | refine blk_drew ?_ | refine blk_alloc ?_ _)); exact BK367.out) hb); have n3_ := Aside0.mk (below_step (by repeat (first | (with_reducible first | exact HB.out | apply below_alloc | apply pw_below_drewN | apply below_drew1 | refine below_set ?_ GE357.out | refine below_set ?_ GE362.out | refine below_set ?_ GE367.out) | exact HB.out)) hb); clear BK357; clear BK362; clear BK367; clear HB; have BK357 := n0_; have BK362 := n1_; have BK367 := n2_; have HB := n3_; clear n0_ n1_ n2_ n3_; (try clear hb); (try clear hb2); (try clear hk); (try clear hi); have hcz67_0 : w66.cell? ⟨gb357, 0, none⟩ = some (.int .i64 t353) := (blk_cell BK357.out 0).trans rfl; have hcz67_1 : w66.cell? ⟨gb357, 1, none⟩ = some (.string t354) := (blk_cell BK357.out 1).trans rfl; have hcz67_2 : w66.cell? ⟨gb357, 2, none⟩ = some (.int .i64 t355) := (blk_cell BK357.out 2).trans rfl; have hfz67_0 := blk_frozen BK357.out 0; have hfz67_1 := blk_frozen BK357.out 1; have hfz67_2 := blk_frozen BK357.out 2))
                          go_meet
                          case rel => exact ⟨_, H', ⟨by have := HJ6.out; first | omega | exact Nat.le_refl _⟩, ⟨by (with_reducible repeat (first | refine blk_drewN ?_ _ | refine blk_drew ?_ | refine blk_alloc ?_ _)); exact BK357.out⟩, ⟨by (with_reducible repeat (first | refine blk_drewN ?_ _ | refine blk_drew ?_ | refine blk_alloc ?_ _)); exact BK362.out⟩, ⟨by (with_reducible repeat (first | refine blk_drewN ?_ _ | refine blk_drew ?_ | refine blk_alloc ?_ _)); exact BK367.out⟩, ⟨by repeat (first | (with_reducible first | exact HB.out | apply below_alloc | apply pw_below_drewN | apply below_drew1 | refine below_set ?_ GE357.out | refine below_set ?_ GE362.out | refine below_set ?_ GE367.out) | exact HB.out)⟩⟩
                    · replace c36 := Bool.eq_false_iff.mpr c36
                      subst c36
                      have H1 : (some false) = some r := by rw [if_neg (show ¬ (false = true) by decide)] at H; exact H
                      clear H
                      have H := H1
                      clear H1
                      obtain rfl := Option.some.inj H
                      have hnb68 := NB362_357.out
                      have hnc68 := NB357_362.out
                      have hnb69 := NB362_367.out
                      have hnc69 := NB367_362.out
                      have hcz70_0 : wc.cell? ⟨gb362, 0, none⟩ = some (.int .i64 t358) := (blk_cell BK362.out 0).trans rfl
                      have hcz70_1 : wc.cell? ⟨gb362, 1, none⟩ = some (.string t359) := (blk_cell BK362.out 1).trans rfl
                      have hcz70_2 : wc.cell? ⟨gb362, 2, none⟩ = some (.int .i64 t360) := (blk_cell BK362.out 2).trans rfl
                      have hfz70_0 := blk_frozen BK362.out 0
                      have hfz70_1 := blk_frozen BK362.out 1
                      have hfz70_2 := blk_frozen BK362.out 2
                      go_wp2_with (first | ((with_reducible refine gate_callee (f := 25) rfl ?_); refine goesL_ (some 64) rfl rfl Try.func25 (by kernel_rfl) rfl #[.agg #[.int .i64 t358, .string t359, .int .i64 t360], .string t356] rfl (by (try simp only [List.map_toArray, List.map_cons, List.map_nil]); first | done | rfl | (simp only [List.length_drop, List.length_take]; rfl)) ?_; (with_reducible refine (impl_MayHave.calls kj6 t358 t359 t360 t356 false true _ A30.out).mono ?_); rintro e w71 ⟨rfl, hb⟩; refine ⟨_, rfl, ?_⟩; have n0_ := Aside0.mk (blk_below (g := gb357) (o := .cells #[.int .i64 t353, .string t354, .int .i64 t355] 27 (0, 0)) (by (with_reducible repeat (first | refine blk_drewN ?_ _ | refine blk_drew ?_ | refine blk_alloc ?_ _)); exact BK357.out) hb); have n1_ := Aside0.mk (blk_below (g := gb362) (o := .cells #[.int .i64 t358, .string t359, .int .i64 t360] 27 (0, 0)) (by (with_reducible repeat (first | refine blk_drewN ?_ _ | refine blk_drew ?_ | refine blk_alloc ?_ _)); exact BK362.out) hb); have n2_ := Aside0.mk (blk_below (g := gb367) (o := .cells #[.int .i64 t363, .string t364, .int .i64 t365] 27 (0, 0)) (by (with_reducible repeat (first | refine blk_drewN ?_ _ | refine blk_drew ?_ | refine blk_alloc ?_ _)); exact BK367.out) hb); have n3_ := Aside0.mk (below_step (by repeat (first | (with_reducible first | exact HB.out | apply below_alloc | apply pw_below_drewN | apply below_drew1 | refine below_set ?_ GE357.out | refine below_set ?_ GE362.out | refine below_set ?_ GE367.out) | exact HB.out)) hb); clear BK357; clear BK362; clear BK367; clear HB; have BK357 := n0_; have BK362 := n1_; have BK367 := n2_; have HB := n3_; clear n0_ n1_ n2_ n3_; (try clear hb); (try clear hb2); (try clear hk); (try clear hi); have hnb72 := NB357_367.out; have hnc72 := NB367_357.out; have hcz73_0 : w71.cell? ⟨gb357, 0, none⟩ = some (.int .i64 t353) := (blk_cell BK357.out 0).trans rfl; have hcz73_1 : w71.cell? ⟨gb357, 1, none⟩ = some (.string t354) := (blk_cell BK357.out 1).trans rfl; have hcz73_2 : w71.cell? ⟨gb357, 2, none⟩ = some (.int .i64 t355) := (blk_cell BK357.out 2).trans rfl; have hfz73_0 := blk_frozen BK357.out 0; have hfz73_1 := blk_frozen BK357.out 1; have hfz73_2 := blk_frozen BK357.out 2) | ((with_reducible refine gate_callee (f := 15) rfl ?_); refine goesL_ (some 69) rfl rfl Try.func15 (by kernel_rfl) rfl #[.agg #[.int .i64 t353, .string t354, .int .i64 t355]] rfl (by (try simp only [List.map_toArray, List.map_cons, List.map_nil]); first | done | rfl | (simp only [List.length_drop, List.length_take]; rfl)) ?_; (with_reducible refine (impl_OnesIn.calls kj6 t353 t354 t355 t370 true _ A31.out).mono ?_); rintro e w74 ⟨rfl, hb⟩; refine ⟨_, rfl, ?_⟩; have n0_ := Aside0.mk (blk_below (g := gb357) (o := .cells #[.int .i64 t353, .string t354, .int .i64 t355] 27 (0, 0)) (by (with_reducible repeat (first | refine blk_drewN ?_ _ | refine blk_drew ?_ | refine blk_alloc ?_ _)); exact BK357.out) hb); have n1_ := Aside0.mk (blk_below (g := gb362) (o := .cells #[.int .i64 t358, .string t359, .int .i64 t360] 27 (0, 0)) (by (with_reducible repeat (first | refine blk_drewN ?_ _ | refine blk_drew ?_ | refine blk_alloc ?_ _)); exact BK362.out) hb); have n2_ := Aside0.mk (blk_below (g := gb367) (o := .cells #[.int .i64 t363, .string t364, .int .i64 t365] 27 (0, 0)) (by (with_reducible repeat (first | refine blk_drewN ?_ _ | refine blk_drew ?_ | refine blk_alloc ?_ _)); exact BK367.out) hb); have n3_ := Aside0.mk (below_step (by repeat (first | (with_reducible first | exact HB.out | apply below_alloc | apply pw_below_drewN | apply below_drew1 | refine below_set ?_ GE357.out | refine below_set ?_ GE362.out | refine below_set ?_ GE367.out) | exact HB.out)) hb); clear BK357; clear BK362; clear BK367; clear HB; have BK357 := n0_; have BK362 := n1_; have BK367 := n2_; have HB := n3_; clear n0_ n1_ n2_ n3_; (try clear hb); (try clear hb2); (try clear hk); (try clear hi); have hcz75_0 : w74.cell? ⟨gb362, 0, none⟩ = some (.int .i64 t358) := (blk_cell BK362.out 0).trans rfl; have hcz75_1 : w74.cell? ⟨gb362, 1, none⟩ = some (.string t359) := (blk_cell BK362.out 1).trans rfl; have hcz75_2 : w74.cell? ⟨gb362, 2, none⟩ = some (.int .i64 t360) := (blk_cell BK362.out 2).trans rfl; have hfz75_0 := blk_frozen BK362.out 0; have hfz75_1 := blk_frozen BK362.out 1; have hfz75_2 := blk_frozen BK362.out 2) | ((with_reducible refine gate_callee (f := 15) rfl ?_); refine goesL_ (some 74) rfl rfl Try.func15 (by kernel_rfl) rfl #[.agg #[.int .i64 t358, .string t359, .int .i64 t360]] rfl (by (try simp only [List.map_toArray, List.map_cons, List.map_nil]); first | done | rfl | (simp only [List.length_drop, List.length_take]; rfl)) ?_; (with_reducible refine (impl_OnesIn.calls kj6 t358 t359 t360 t372 true _ A32.out).mono ?_); rintro e w76 ⟨rfl, hb⟩; refine ⟨_, rfl, ?_⟩; have n0_ := Aside0.mk (blk_below (g := gb357) (o := .cells #[.int .i64 t353, .string t354, .int .i64 t355] 27 (0, 0)) (by (with_reducible repeat (first | refine blk_drewN ?_ _ | refine blk_drew ?_ | refine blk_alloc ?_ _)); exact BK357.out) hb); have n1_ := Aside0.mk (blk_below (g := gb362) (o := .cells #[.int .i64 t358, .string t359, .int .i64 t360] 27 (0, 0)) (by (with_reducible repeat (first | refine blk_drewN ?_ _ | refine blk_drew ?_ | refine blk_alloc ?_ _)); exact BK362.out) hb); have n2_ := Aside0.mk (blk_below (g := gb367) (o := .cells #[.int .i64 t363, .string t364, .int .i64 t365] 27 (0, 0)) (by (with_reducible repeat (first | refine blk_drewN ?_ _ | refine blk_drew ?_ | refine blk_alloc ?_ _)); exact BK367.out) hb); have n3_ := Aside0.mk (below_step (by repeat (first | (with_reducible first | exact HB.out | apply below_alloc | apply pw_below_drewN | apply below_drew1 | refine below_set ?_ GE357.out | refine below_set ?_ GE362.out | refine below_set ?_ GE367.out) | exact HB.out)) hb); clear BK357; clear BK362; clear BK367; clear HB; have BK357 := n0_; have BK362 := n1_; have BK367 := n2_; have HB := n3_; clear n0_ n1_ n2_ n3_; (try clear hb); (try clear hb2); (try clear hk); (try clear hi)))
                      go_ret
                      exact ⟨by first | rfl | (simp [errW_none, errW_some] <;> rfl) | (simp [*, errW_none, errW_some] <;> rfl), by repeat (first | (with_reducible first | exact HB.out | apply below_alloc | apply pw_below_drewN | apply below_drew1 | refine below_set ?_ GE357.out | refine below_set ?_ GE362.out | refine below_set ?_ GE367.out) | exact HB.out)⟩
                  · replace c35 := Bool.eq_false_iff.mpr c35
                    subst c35
                    have H1 : (some false) = some r := by rw [if_neg (show ¬ (false = true) by decide)] at H; exact H
                    clear H
                    have H := H1
                    clear H1
                    obtain rfl := Option.some.inj H
                    have hnb77 := NB362_357.out
                    have hnc77 := NB357_362.out
                    have hnb78 := NB362_367.out
                    have hnc78 := NB367_362.out
                    have hcz79_0 : wc.cell? ⟨gb362, 0, none⟩ = some (.int .i64 t358) := (blk_cell BK362.out 0).trans rfl
                    have hcz79_1 : wc.cell? ⟨gb362, 1, none⟩ = some (.string t359) := (blk_cell BK362.out 1).trans rfl
                    have hcz79_2 : wc.cell? ⟨gb362, 2, none⟩ = some (.int .i64 t360) := (blk_cell BK362.out 2).trans rfl
                    have hfz79_0 := blk_frozen BK362.out 0
                    have hfz79_1 := blk_frozen BK362.out 1
                    have hfz79_2 := blk_frozen BK362.out 2
                    go_wp2_with (first | ((with_reducible refine gate_callee (f := 25) rfl ?_); refine goesL_ (some 64) rfl rfl Try.func25 (by kernel_rfl) rfl #[.agg #[.int .i64 t358, .string t359, .int .i64 t360], .string t356] rfl (by (try simp only [List.map_toArray, List.map_cons, List.map_nil]); first | done | rfl | (simp only [List.length_drop, List.length_take]; rfl)) ?_; (with_reducible refine (impl_MayHave.calls kj6 t358 t359 t360 t356 t368 true _ A30.out).mono ?_); rintro e w80 ⟨rfl, hb⟩; refine ⟨_, rfl, ?_⟩; have n0_ := Aside0.mk (blk_below (g := gb357) (o := .cells #[.int .i64 t353, .string t354, .int .i64 t355] 27 (0, 0)) (by (with_reducible repeat (first | refine blk_drewN ?_ _ | refine blk_drew ?_ | refine blk_alloc ?_ _)); exact BK357.out) hb); have n1_ := Aside0.mk (blk_below (g := gb362) (o := .cells #[.int .i64 t358, .string t359, .int .i64 t360] 27 (0, 0)) (by (with_reducible repeat (first | refine blk_drewN ?_ _ | refine blk_drew ?_ | refine blk_alloc ?_ _)); exact BK362.out) hb); have n2_ := Aside0.mk (blk_below (g := gb367) (o := .cells #[.int .i64 t363, .string t364, .int .i64 t365] 27 (0, 0)) (by (with_reducible repeat (first | refine blk_drewN ?_ _ | refine blk_drew ?_ | refine blk_alloc ?_ _)); exact BK367.out) hb); have n3_ := Aside0.mk (below_step (by repeat (first | (with_reducible first | exact HB.out | apply below_alloc | apply pw_below_drewN | apply below_drew1 | refine below_set ?_ GE357.out | refine below_set ?_ GE362.out | refine below_set ?_ GE367.out) | exact HB.out)) hb); clear BK357; clear BK362; clear BK367; clear HB; have BK357 := n0_; have BK362 := n1_; have BK367 := n2_; have HB := n3_; clear n0_ n1_ n2_ n3_; (try clear hb); (try clear hb2); (try clear hk); (try clear hi); have hnb81 := NB357_367.out; have hnc81 := NB367_357.out; have hcz82_0 : w80.cell? ⟨gb357, 0, none⟩ = some (.int .i64 t353) := (blk_cell BK357.out 0).trans rfl; have hcz82_1 : w80.cell? ⟨gb357, 1, none⟩ = some (.string t354) := (blk_cell BK357.out 1).trans rfl; have hcz82_2 : w80.cell? ⟨gb357, 2, none⟩ = some (.int .i64 t355) := (blk_cell BK357.out 2).trans rfl; have hfz82_0 := blk_frozen BK357.out 0; have hfz82_1 := blk_frozen BK357.out 1; have hfz82_2 := blk_frozen BK357.out 2) | ((with_reducible refine gate_callee (f := 15) rfl ?_); refine goesL_ (some 69) rfl rfl Try.func15 (by kernel_rfl) rfl #[.agg #[.int .i64 t353, .string t354, .int .i64 t355]] rfl (by (try simp only [List.map_toArray, List.map_cons, List.map_nil]); first | done | rfl | (simp only [List.length_drop, List.length_take]; rfl)) ?_; (with_reducible refine (impl_OnesIn.calls kj6 t353 t354 t355 t370 true _ A31.out).mono ?_); rintro e w83 ⟨rfl, hb⟩; refine ⟨_, rfl, ?_⟩; have n0_ := Aside0.mk (blk_below (g := gb357) (o := .cells #[.int .i64 t353, .string t354, .int .i64 t355] 27 (0, 0)) (by (with_reducible repeat (first | refine blk_drewN ?_ _ | refine blk_drew ?_ | refine blk_alloc ?_ _)); exact BK357.out) hb); have n1_ := Aside0.mk (blk_below (g := gb362) (o := .cells #[.int .i64 t358, .string t359, .int .i64 t360] 27 (0, 0)) (by (with_reducible repeat (first | refine blk_drewN ?_ _ | refine blk_drew ?_ | refine blk_alloc ?_ _)); exact BK362.out) hb); have n2_ := Aside0.mk (blk_below (g := gb367) (o := .cells #[.int .i64 t363, .string t364, .int .i64 t365] 27 (0, 0)) (by (with_reducible repeat (first | refine blk_drewN ?_ _ | refine blk_drew ?_ | refine blk_alloc ?_ _)); exact BK367.out) hb); have n3_ := Aside0.mk (below_step (by repeat (first | (with_reducible first | exact HB.out | apply below_alloc | apply pw_below_drewN | apply below_drew1 | refine below_set ?_ GE357.out | refine below_set ?_ GE362.out | refine below_set ?_ GE367.out) | exact HB.out)) hb); clear BK357; clear BK362; clear BK367; clear HB; have BK357 := n0_; have BK362 := n1_; have BK367 := n2_; have HB := n3_; clear n0_ n1_ n2_ n3_; (try clear hb); (try clear hb2); (try clear hk); (try clear hi); have hcz84_0 : w83.cell? ⟨gb362, 0, none⟩ = some (.int .i64 t358) := (blk_cell BK362.out 0).trans rfl; have hcz84_1 : w83.cell? ⟨gb362, 1, none⟩ = some (.string t359) := (blk_cell BK362.out 1).trans rfl; have hcz84_2 : w83.cell? ⟨gb362, 2, none⟩ = some (.int .i64 t360) := (blk_cell BK362.out 2).trans rfl; have hfz84_0 := blk_frozen BK362.out 0; have hfz84_1 := blk_frozen BK362.out 1; have hfz84_2 := blk_frozen BK362.out 2) | ((with_reducible refine gate_callee (f := 15) rfl ?_); refine goesL_ (some 74) rfl rfl Try.func15 (by kernel_rfl) rfl #[.agg #[.int .i64 t358, .string t359, .int .i64 t360]] rfl (by (try simp only [List.map_toArray, List.map_cons, List.map_nil]); first | done | rfl | (simp only [List.length_drop, List.length_take]; rfl)) ?_; (with_reducible refine (impl_OnesIn.calls kj6 t358 t359 t360 t372 false _ A32.out).mono ?_); rintro e w85 ⟨rfl, hb⟩; refine ⟨_, rfl, ?_⟩; have n0_ := Aside0.mk (blk_below (g := gb357) (o := .cells #[.int .i64 t353, .string t354, .int .i64 t355] 27 (0, 0)) (by (with_reducible repeat (first | refine blk_drewN ?_ _ | refine blk_drew ?_ | refine blk_alloc ?_ _)); exact BK357.out) hb); have n1_ := Aside0.mk (blk_below (g := gb362) (o := .cells #[.int .i64 t358, .string t359, .int .i64 t360] 27 (0, 0)) (by (with_reducible repeat (first | refine blk_drewN ?_ _ | refine blk_drew ?_ | refine blk_alloc ?_ _)); exact BK362.out) hb); have n2_ := Aside0.mk (blk_below (g := gb367) (o := .cells #[.int .i64 t363, .string t364, .int .i64 t365] 27 (0, 0)) (by (with_reducible repeat (first | refine blk_drewN ?_ _ | refine blk_drew ?_ | refine blk_alloc ?_ _)); exact BK367.out) hb); have n3_ := Aside0.mk (below_step (by repeat (first | (with_reducible first | exact HB.out | apply below_alloc | apply pw_below_drewN | apply below_drew1 | refine below_set ?_ GE357.out | refine below_set ?_ GE362.out | refine below_set ?_ GE367.out) | exact HB.out)) hb); clear BK357; clear BK362; clear BK367; clear HB; have BK357 := n0_; have BK362 := n1_; have BK367 := n2_; have HB := n3_; clear n0_ n1_ n2_ n3_; (try clear hb); (try clear hb2); (try clear hk); (try clear hi)))
                    go_ret
                    exact ⟨by first | rfl | (simp [errW_none, errW_some] <;> rfl) | (simp [*, errW_none, errW_some] <;> rfl), by repeat (first | (with_reducible first | exact HB.out | apply below_alloc | apply pw_below_drewN | apply below_drew1 | refine below_set ?_ GE357.out | refine below_set ?_ GE362.out | refine below_set ?_ GE367.out) | exact HB.out)⟩
                · replace c34 := Bool.eq_false_iff.mpr c34
                  subst c34
                  have H1 : (some false) = some r := by rw [if_neg (show ¬ (false = true) by decide)] at H; exact H
                  clear H
                  have H := H1
                  clear H1
                  obtain rfl := Option.some.inj H
                  have hnb86 := NB362_357.out
                  have hnc86 := NB357_362.out
                  have hnb87 := NB362_367.out
                  have hnc87 := NB367_362.out
                  have hcz88_0 : wc.cell? ⟨gb362, 0, none⟩ = some (.int .i64 t358) := (blk_cell BK362.out 0).trans rfl
                  have hcz88_1 : wc.cell? ⟨gb362, 1, none⟩ = some (.string t359) := (blk_cell BK362.out 1).trans rfl
                  have hcz88_2 : wc.cell? ⟨gb362, 2, none⟩ = some (.int .i64 t360) := (blk_cell BK362.out 2).trans rfl
                  have hfz88_0 := blk_frozen BK362.out 0
                  have hfz88_1 := blk_frozen BK362.out 1
                  have hfz88_2 := blk_frozen BK362.out 2
                  go_wp2_with (first | ((with_reducible refine gate_callee (f := 25) rfl ?_); refine goesL_ (some 64) rfl rfl Try.func25 (by kernel_rfl) rfl #[.agg #[.int .i64 t358, .string t359, .int .i64 t360], .string t356] rfl (by (try simp only [List.map_toArray, List.map_cons, List.map_nil]); first | done | rfl | (simp only [List.length_drop, List.length_take]; rfl)) ?_; (with_reducible refine (impl_MayHave.calls kj6 t358 t359 t360 t356 t368 true _ A30.out).mono ?_); rintro e w89 ⟨rfl, hb⟩; refine ⟨_, rfl, ?_⟩; have n0_ := Aside0.mk (blk_below (g := gb357) (o := .cells #[.int .i64 t353, .string t354, .int .i64 t355] 27 (0, 0)) (by (with_reducible repeat (first | refine blk_drewN ?_ _ | refine blk_drew ?_ | refine blk_alloc ?_ _)); exact BK357.out) hb); have n1_ := Aside0.mk (blk_below (g := gb362) (o := .cells #[.int .i64 t358, .string t359, .int .i64 t360] 27 (0, 0)) (by (with_reducible repeat (first | refine blk_drewN ?_ _ | refine blk_drew ?_ | refine blk_alloc ?_ _)); exact BK362.out) hb); have n2_ := Aside0.mk (blk_below (g := gb367) (o := .cells #[.int .i64 t363, .string t364, .int .i64 t365] 27 (0, 0)) (by (with_reducible repeat (first | refine blk_drewN ?_ _ | refine blk_drew ?_ | refine blk_alloc ?_ _)); exact BK367.out) hb); have n3_ := Aside0.mk (below_step (by repeat (first | (with_reducible first | exact HB.out | apply below_alloc | apply pw_below_drewN | apply below_drew1 | refine below_set ?_ GE357.out | refine below_set ?_ GE362.out | refine below_set ?_ GE367.out) | exact HB.out)) hb); clear BK357; clear BK362; clear BK367; clear HB; have BK357 := n0_; have BK362 := n1_; have BK367 := n2_; have HB := n3_; clear n0_ n1_ n2_ n3_; (try clear hb); (try clear hb2); (try clear hk); (try clear hi); have hnb90 := NB357_367.out; have hnc90 := NB367_357.out; have hcz91_0 : w89.cell? ⟨gb357, 0, none⟩ = some (.int .i64 t353) := (blk_cell BK357.out 0).trans rfl; have hcz91_1 : w89.cell? ⟨gb357, 1, none⟩ = some (.string t354) := (blk_cell BK357.out 1).trans rfl; have hcz91_2 : w89.cell? ⟨gb357, 2, none⟩ = some (.int .i64 t355) := (blk_cell BK357.out 2).trans rfl; have hfz91_0 := blk_frozen BK357.out 0; have hfz91_1 := blk_frozen BK357.out 1; have hfz91_2 := blk_frozen BK357.out 2) | ((with_reducible refine gate_callee (f := 15) rfl ?_); refine goesL_ (some 69) rfl rfl Try.func15 (by kernel_rfl) rfl #[.agg #[.int .i64 t353, .string t354, .int .i64 t355]] rfl (by (try simp only [List.map_toArray, List.map_cons, List.map_nil]); first | done | rfl | (simp only [List.length_drop, List.length_take]; rfl)) ?_; (with_reducible refine (impl_OnesIn.calls kj6 t353 t354 t355 t370 false _ A31.out).mono ?_); rintro e w92 ⟨rfl, hb⟩; refine ⟨_, rfl, ?_⟩; have n0_ := Aside0.mk (blk_below (g := gb357) (o := .cells #[.int .i64 t353, .string t354, .int .i64 t355] 27 (0, 0)) (by (with_reducible repeat (first | refine blk_drewN ?_ _ | refine blk_drew ?_ | refine blk_alloc ?_ _)); exact BK357.out) hb); have n1_ := Aside0.mk (blk_below (g := gb362) (o := .cells #[.int .i64 t358, .string t359, .int .i64 t360] 27 (0, 0)) (by (with_reducible repeat (first | refine blk_drewN ?_ _ | refine blk_drew ?_ | refine blk_alloc ?_ _)); exact BK362.out) hb); have n2_ := Aside0.mk (blk_below (g := gb367) (o := .cells #[.int .i64 t363, .string t364, .int .i64 t365] 27 (0, 0)) (by (with_reducible repeat (first | refine blk_drewN ?_ _ | refine blk_drew ?_ | refine blk_alloc ?_ _)); exact BK367.out) hb); have n3_ := Aside0.mk (below_step (by repeat (first | (with_reducible first | exact HB.out | apply below_alloc | apply pw_below_drewN | apply below_drew1 | refine below_set ?_ GE357.out | refine below_set ?_ GE362.out | refine below_set ?_ GE367.out) | exact HB.out)) hb); clear BK357; clear BK362; clear BK367; clear HB; have BK357 := n0_; have BK362 := n1_; have BK367 := n2_; have HB := n3_; clear n0_ n1_ n2_ n3_; (try clear hb); (try clear hb2); (try clear hk); (try clear hi); have hcz93_0 : w92.cell? ⟨gb362, 0, none⟩ = some (.int .i64 t358) := (blk_cell BK362.out 0).trans rfl; have hcz93_1 : w92.cell? ⟨gb362, 1, none⟩ = some (.string t359) := (blk_cell BK362.out 1).trans rfl; have hcz93_2 : w92.cell? ⟨gb362, 2, none⟩ = some (.int .i64 t360) := (blk_cell BK362.out 2).trans rfl; have hfz93_0 := blk_frozen BK362.out 0; have hfz93_1 := blk_frozen BK362.out 1; have hfz93_2 := blk_frozen BK362.out 2) | ((with_reducible refine gate_callee (f := 15) rfl ?_); refine goesL_ (some 74) rfl rfl Try.func15 (by kernel_rfl) rfl #[.agg #[.int .i64 t358, .string t359, .int .i64 t360]] rfl (by (try simp only [List.map_toArray, List.map_cons, List.map_nil]); first | done | rfl | (simp only [List.length_drop, List.length_take]; rfl)) ?_; (with_reducible refine (impl_OnesIn.calls kj6 t358 t359 t360 t372 t373 _ A32.out).mono ?_); rintro e w94 ⟨rfl, hb⟩; refine ⟨_, rfl, ?_⟩; have n0_ := Aside0.mk (blk_below (g := gb357) (o := .cells #[.int .i64 t353, .string t354, .int .i64 t355] 27 (0, 0)) (by (with_reducible repeat (first | refine blk_drewN ?_ _ | refine blk_drew ?_ | refine blk_alloc ?_ _)); exact BK357.out) hb); have n1_ := Aside0.mk (blk_below (g := gb362) (o := .cells #[.int .i64 t358, .string t359, .int .i64 t360] 27 (0, 0)) (by (with_reducible repeat (first | refine blk_drewN ?_ _ | refine blk_drew ?_ | refine blk_alloc ?_ _)); exact BK362.out) hb); have n2_ := Aside0.mk (blk_below (g := gb367) (o := .cells #[.int .i64 t363, .string t364, .int .i64 t365] 27 (0, 0)) (by (with_reducible repeat (first | refine blk_drewN ?_ _ | refine blk_drew ?_ | refine blk_alloc ?_ _)); exact BK367.out) hb); have n3_ := Aside0.mk (below_step (by repeat (first | (with_reducible first | exact HB.out | apply below_alloc | apply pw_below_drewN | apply below_drew1 | refine below_set ?_ GE357.out | refine below_set ?_ GE362.out | refine below_set ?_ GE367.out) | exact HB.out)) hb); clear BK357; clear BK362; clear BK367; clear HB; have BK357 := n0_; have BK362 := n1_; have BK367 := n2_; have HB := n3_; clear n0_ n1_ n2_ n3_; (try clear hb); (try clear hb2); (try clear hk); (try clear hi)))
                  go_ret
                  exact ⟨by first | rfl | (simp [errW_none, errW_some] <;> rfl) | (simp [*, errW_none, errW_some] <;> rfl), by repeat (first | (with_reducible first | exact HB.out | apply below_alloc | apply pw_below_drewN | apply below_drew1 | refine below_set ?_ GE357.out | refine below_set ?_ GE362.out | refine below_set ?_ GE367.out) | exact HB.out)⟩
              · replace c33 := Bool.eq_false_iff.mpr c33
                subst c33
                have H1 : (some false) = some r := by rw [if_neg (show ¬ (false = true) by decide)] at H; exact H
                clear H
                have H := H1
                clear H1
                obtain rfl := Option.some.inj H
                have hnb95 := NB362_357.out
                have hnc95 := NB357_362.out
                have hnb96 := NB362_367.out
                have hnc96 := NB367_362.out
                have hcz97_0 : wc.cell? ⟨gb362, 0, none⟩ = some (.int .i64 t358) := (blk_cell BK362.out 0).trans rfl
                have hcz97_1 : wc.cell? ⟨gb362, 1, none⟩ = some (.string t359) := (blk_cell BK362.out 1).trans rfl
                have hcz97_2 : wc.cell? ⟨gb362, 2, none⟩ = some (.int .i64 t360) := (blk_cell BK362.out 2).trans rfl
                have hfz97_0 := blk_frozen BK362.out 0
                have hfz97_1 := blk_frozen BK362.out 1
                have hfz97_2 := blk_frozen BK362.out 2
                go_wp2_with (first | ((with_reducible refine gate_callee (f := 25) rfl ?_); refine goesL_ (some 64) rfl rfl Try.func25 (by kernel_rfl) rfl #[.agg #[.int .i64 t358, .string t359, .int .i64 t360], .string t356] rfl (by (try simp only [List.map_toArray, List.map_cons, List.map_nil]); first | done | rfl | (simp only [List.length_drop, List.length_take]; rfl)) ?_; (with_reducible refine (impl_MayHave.calls kj6 t358 t359 t360 t356 t368 false _ A30.out).mono ?_); rintro e w98 ⟨rfl, hb⟩; refine ⟨_, rfl, ?_⟩; have n0_ := Aside0.mk (blk_below (g := gb357) (o := .cells #[.int .i64 t353, .string t354, .int .i64 t355] 27 (0, 0)) (by (with_reducible repeat (first | refine blk_drewN ?_ _ | refine blk_drew ?_ | refine blk_alloc ?_ _)); exact BK357.out) hb); have n1_ := Aside0.mk (blk_below (g := gb362) (o := .cells #[.int .i64 t358, .string t359, .int .i64 t360] 27 (0, 0)) (by (with_reducible repeat (first | refine blk_drewN ?_ _ | refine blk_drew ?_ | refine blk_alloc ?_ _)); exact BK362.out) hb); have n2_ := Aside0.mk (blk_below (g := gb367) (o := .cells #[.int .i64 t363, .string t364, .int .i64 t365] 27 (0, 0)) (by (with_reducible repeat (first | refine blk_drewN ?_ _ | refine blk_drew ?_ | refine blk_alloc ?_ _)); exact BK367.out) hb); have n3_ := Aside0.mk (below_step (by repeat (first | (with_reducible first | exact HB.out | apply below_alloc | apply pw_below_drewN | apply below_drew1 | refine below_set ?_ GE357.out | refine below_set ?_ GE362.out | refine below_set ?_ GE367.out) | exact HB.out)) hb); clear BK357; clear BK362; clear BK367; clear HB; have BK357 := n0_; have BK362 := n1_; have BK367 := n2_; have HB := n3_; clear n0_ n1_ n2_ n3_; (try clear hb); (try clear hb2); (try clear hk); (try clear hi); have hnb99 := NB357_367.out; have hnc99 := NB367_357.out; have hcz100_0 : w98.cell? ⟨gb357, 0, none⟩ = some (.int .i64 t353) := (blk_cell BK357.out 0).trans rfl; have hcz100_1 : w98.cell? ⟨gb357, 1, none⟩ = some (.string t354) := (blk_cell BK357.out 1).trans rfl; have hcz100_2 : w98.cell? ⟨gb357, 2, none⟩ = some (.int .i64 t355) := (blk_cell BK357.out 2).trans rfl; have hfz100_0 := blk_frozen BK357.out 0; have hfz100_1 := blk_frozen BK357.out 1; have hfz100_2 := blk_frozen BK357.out 2) | ((with_reducible refine gate_callee (f := 15) rfl ?_); refine goesL_ (some 69) rfl rfl Try.func15 (by kernel_rfl) rfl #[.agg #[.int .i64 t353, .string t354, .int .i64 t355]] rfl (by (try simp only [List.map_toArray, List.map_cons, List.map_nil]); first | done | rfl | (simp only [List.length_drop, List.length_take]; rfl)) ?_; (with_reducible refine (impl_OnesIn.calls kj6 t353 t354 t355 t370 t371 _ A31.out).mono ?_); rintro e w101 ⟨rfl, hb⟩; refine ⟨_, rfl, ?_⟩; have n0_ := Aside0.mk (blk_below (g := gb357) (o := .cells #[.int .i64 t353, .string t354, .int .i64 t355] 27 (0, 0)) (by (with_reducible repeat (first | refine blk_drewN ?_ _ | refine blk_drew ?_ | refine blk_alloc ?_ _)); exact BK357.out) hb); have n1_ := Aside0.mk (blk_below (g := gb362) (o := .cells #[.int .i64 t358, .string t359, .int .i64 t360] 27 (0, 0)) (by (with_reducible repeat (first | refine blk_drewN ?_ _ | refine blk_drew ?_ | refine blk_alloc ?_ _)); exact BK362.out) hb); have n2_ := Aside0.mk (blk_below (g := gb367) (o := .cells #[.int .i64 t363, .string t364, .int .i64 t365] 27 (0, 0)) (by (with_reducible repeat (first | refine blk_drewN ?_ _ | refine blk_drew ?_ | refine blk_alloc ?_ _)); exact BK367.out) hb); have n3_ := Aside0.mk (below_step (by repeat (first | (with_reducible first | exact HB.out | apply below_alloc | apply pw_below_drewN | apply below_drew1 | refine below_set ?_ GE357.out | refine below_set ?_ GE362.out | refine below_set ?_ GE367.out) | exact HB.out)) hb); clear BK357; clear BK362; clear BK367; clear HB; have BK357 := n0_; have BK362 := n1_; have BK367 := n2_; have HB := n3_; clear n0_ n1_ n2_ n3_; (try clear hb); (try clear hb2); (try clear hk); (try clear hi); have hcz102_0 : w101.cell? ⟨gb362, 0, none⟩ = some (.int .i64 t358) := (blk_cell BK362.out 0).trans rfl; have hcz102_1 : w101.cell? ⟨gb362, 1, none⟩ = some (.string t359) := (blk_cell BK362.out 1).trans rfl; have hcz102_2 : w101.cell? ⟨gb362, 2, none⟩ = some (.int .i64 t360) := (blk_cell BK362.out 2).trans rfl; have hfz102_0 := blk_frozen BK362.out 0; have hfz102_1 := blk_frozen BK362.out 1; have hfz102_2 := blk_frozen BK362.out 2) | ((with_reducible refine gate_callee (f := 15) rfl ?_); refine goesL_ (some 74) rfl rfl Try.func15 (by kernel_rfl) rfl #[.agg #[.int .i64 t358, .string t359, .int .i64 t360]] rfl (by (try simp only [List.map_toArray, List.map_cons, List.map_nil]); first | done | rfl | (simp only [List.length_drop, List.length_take]; rfl)) ?_; (with_reducible refine (impl_OnesIn.calls kj6 t358 t359 t360 t372 t373 _ A32.out).mono ?_); rintro e w103 ⟨rfl, hb⟩; refine ⟨_, rfl, ?_⟩; have n0_ := Aside0.mk (blk_below (g := gb357) (o := .cells #[.int .i64 t353, .string t354, .int .i64 t355] 27 (0, 0)) (by (with_reducible repeat (first | refine blk_drewN ?_ _ | refine blk_drew ?_ | refine blk_alloc ?_ _)); exact BK357.out) hb); have n1_ := Aside0.mk (blk_below (g := gb362) (o := .cells #[.int .i64 t358, .string t359, .int .i64 t360] 27 (0, 0)) (by (with_reducible repeat (first | refine blk_drewN ?_ _ | refine blk_drew ?_ | refine blk_alloc ?_ _)); exact BK362.out) hb); have n2_ := Aside0.mk (blk_below (g := gb367) (o := .cells #[.int .i64 t363, .string t364, .int .i64 t365] 27 (0, 0)) (by (with_reducible repeat (first | refine blk_drewN ?_ _ | refine blk_drew ?_ | refine blk_alloc ?_ _)); exact BK367.out) hb); have n3_ := Aside0.mk (below_step (by repeat (first | (with_reducible first | exact HB.out | apply below_alloc | apply pw_below_drewN | apply below_drew1 | refine below_set ?_ GE357.out | refine below_set ?_ GE362.out | refine below_set ?_ GE367.out) | exact HB.out)) hb); clear BK357; clear BK362; clear BK367; clear HB; have BK357 := n0_; have BK362 := n1_; have BK367 := n2_; have HB := n3_; clear n0_ n1_ n2_ n3_; (try clear hb); (try clear hb2); (try clear hk); (try clear hi)))
                go_ret
                exact ⟨by first | rfl | (simp [errW_none, errW_some] <;> rfl) | (simp [*, errW_none, errW_some] <;> rfl), by repeat (first | (with_reducible first | exact HB.out | apply below_alloc | apply pw_below_drewN | apply below_drew1 | refine below_set ?_ GE357.out | refine below_set ?_ GE362.out | refine below_set ?_ GE367.out) | exact HB.out)⟩
            · replace c29 := Bool.eq_false_iff.mpr c29
              subst c29
              have H1 : (laws_FnBloom.j1 kj6 l1) = some r := by rw [if_neg (show ¬ (false = true) by decide)] at H; exact H
              clear H
              have H := H1
              clear H1
              have H' := Aside0.mk H
              clear H
              go_wp2
              go_meet
              case rel => exact ⟨_, H', ⟨by have := HJ6.out; first | omega | exact Nat.le_refl _⟩, ⟨by (with_reducible repeat (first | refine blk_drewN ?_ _ | refine blk_drew ?_ | refine blk_alloc ?_ _)); exact BK357.out⟩, ⟨by (with_reducible repeat (first | refine blk_drewN ?_ _ | refine blk_drew ?_ | refine blk_alloc ?_ _)); exact BK362.out⟩, ⟨by (with_reducible repeat (first | refine blk_drewN ?_ _ | refine blk_drew ?_ | refine blk_alloc ?_ _)); exact BK367.out⟩, ⟨by repeat (first | (with_reducible first | exact HB.out | apply below_alloc | apply pw_below_drewN | apply below_drew1 | refine below_set ?_ GE357.out | refine below_set ?_ GE362.out | refine below_set ?_ GE367.out) | exact HB.out)⟩⟩
          case rest =>
            clear HC28
            try clear c1
            try clear c2
            try clear p2
            try clear c3
            try clear c3b0
            try clear c4
            try clear c5
            try clear c6
            try clear p6
            try clear c7
            try clear c8
            try clear c9
            try clear c11
            try clear c13
            try clear c15
            try clear c18
            try clear c19
            try clear c21
            try clear c21b0
            try clear c21b1
            try clear c21b2
            try clear c22
            try clear c23
            try clear c25
            try clear c26
            try clear c27
            try clear c29
            try clear c33
            try clear c34
            try clear c35
            try clear c36
            try clear c37
            try clear c37b0
            try clear c37b1
            try clear c38
            try clear c39
            try clear c42
            try clear c47
            try clear c47b0
            try clear c48
            try clear c49
            try clear c52
            try clear c58
            try clear c59
            try clear c62
            try clear p64
            try clear c68
            try clear c69
            try clear c72
            try clear c77
            try clear c78
            try clear c81
            try clear c86
            try clear c87
            try clear c90
            try clear c95
            try clear c96
            try clear c99
            try clear hcz100_0
            try clear hcz100_1
            try clear hcz100_2
            try clear hcz102_0
            try clear hcz102_1
            try clear hcz102_2
            try clear hcz10_0
            try clear hcz10_1
            try clear hcz10_2
            try clear hcz14_0
            try clear hcz14_1
            try clear hcz14_2
            try clear hcz15_0
            try clear hcz15_1
            try clear hcz15_2
            try clear hcz20_0
            try clear hcz20_1
            try clear hcz20_2
            try clear hcz24_0
            try clear hcz24_1
            try clear hcz24_2
            try clear hcz26_0
            try clear hcz26_1
            try clear hcz26_2
            try clear hcz40_0
            try clear hcz40_1
            try clear hcz40_2
            try clear hcz43_0
            try clear hcz43_1
            try clear hcz43_2
            try clear hcz45_0
            try clear hcz45_1
            try clear hcz45_2
            try clear hcz50_0
            try clear hcz50_1
            try clear hcz50_2
            try clear hcz53_0
            try clear hcz53_1
            try clear hcz53_2
            try clear hcz55_0
            try clear hcz55_1
            try clear hcz55_2
            try clear hcz57_0
            try clear hcz57_1
            try clear hcz57_2
            try clear hcz60_0
            try clear hcz60_1
            try clear hcz60_2
            try clear hcz63_0
            try clear hcz63_1
            try clear hcz63_2
            try clear hcz65_0
            try clear hcz65_1
            try clear hcz65_2
            try clear hcz67_0
            try clear hcz67_1
            try clear hcz67_2
            try clear hcz70_0
            try clear hcz70_1
            try clear hcz70_2
            try clear hcz73_0
            try clear hcz73_1
            try clear hcz73_2
            try clear hcz75_0
            try clear hcz75_1
            try clear hcz75_2
            try clear hcz79_0
            try clear hcz79_1
            try clear hcz79_2
            try clear hcz82_0
            try clear hcz82_1
            try clear hcz82_2
            try clear hcz84_0
            try clear hcz84_1
            try clear hcz84_2
            try clear hcz88_0
            try clear hcz88_1
            try clear hcz88_2
            try clear hcz91_0
            try clear hcz91_1
            try clear hcz91_2
            try clear hcz93_0
            try clear hcz93_1
            try clear hcz93_2
            try clear hcz97_0
            try clear hcz97_1
            try clear hcz97_2
            try clear hfz100_0
            try clear hfz100_1
            try clear hfz100_2
            try clear hfz102_0
            try clear hfz102_1
            try clear hfz102_2
            try clear hfz10_0
            try clear hfz10_1
            try clear hfz10_2
            try clear hfz14_0
            try clear hfz14_1
            try clear hfz14_2
            try clear hfz15_0
            try clear hfz15_1
            try clear hfz15_2
            try clear hfz20_0
            try clear hfz20_1
            try clear hfz20_2
            try clear hfz24_0
            try clear hfz24_1
            try clear hfz24_2
            try clear hfz26_0
            try clear hfz26_1
            try clear hfz26_2
            try clear hfz40_0
            try clear hfz40_1
            try clear hfz40_2
            try clear hfz43_0
            try clear hfz43_1
            try clear hfz43_2
            try clear hfz45_0
            try clear hfz45_1
            try clear hfz45_2
            try clear hfz50_0
            try clear hfz50_1
            try clear hfz50_2
            try clear hfz53_0
            try clear hfz53_1
            try clear hfz53_2
            try clear hfz55_0
            try clear hfz55_1
            try clear hfz55_2
            try clear hfz57_0
            try clear hfz57_1
            try clear hfz57_2
            try clear hfz60_0
            try clear hfz60_1
            try clear hfz60_2
            try clear hfz63_0
            try clear hfz63_1
            try clear hfz63_2
            try clear hfz65_0
            try clear hfz65_1
            try clear hfz65_2
            try clear hfz67_0
            try clear hfz67_1
            try clear hfz67_2
            try clear hfz70_0
            try clear hfz70_1
            try clear hfz70_2
            try clear hfz73_0
            try clear hfz73_1
            try clear hfz73_2
            try clear hfz75_0
            try clear hfz75_1
            try clear hfz75_2
            try clear hfz79_0
            try clear hfz79_1
            try clear hfz79_2
            try clear hfz82_0
            try clear hfz82_1
            try clear hfz82_2
            try clear hfz84_0
            try clear hfz84_1
            try clear hfz84_2
            try clear hfz88_0
            try clear hfz88_1
            try clear hfz88_2
            try clear hfz91_0
            try clear hfz91_1
            try clear hfz91_2
            try clear hfz93_0
            try clear hfz93_1
            try clear hfz93_2
            try clear hfz97_0
            try clear hfz97_1
            try clear hfz97_2
            try clear p2
            try clear p6
            obtain ⟨kq, HA, HJ27, BK357, BK362, BK367, HB⟩ := hcut
            cases kq with
            | zero => exact absurd HA.out (by simp [laws_FnBloom.j1])
            | succ kj27 =>
              have H := HA.out
              clear HA
              simp only [laws_FnBloom.j1] at H
              replace H := Option.bind_eq_some_iff.mp H
              obtain ⟨⟨t374, t375⟩, A1040, H⟩ := H
              replace H : ((impl_FilterOf.f kj27 t374 t375).bind fun bt378 => ((spec_FilterOf.f kj27 t374 t375).bind fun bt383 => (if (bt378.2.2.2 != bt383.2.2.2) = true then (laws_FnBloom.j2 kj27 t374 t375 bt378.2.2.2 true bt378.1 bt378.2.1 bt378.2.2.1) else (laws_FnBloom.j2 kj27 t374 t375 bt378.2.2.2 (!(bt378.1 == bt383.1) || (!(bt378.2.1.toList == bt383.2.1.toList) || (!(bt378.2.2.1 == bt383.2.2.1)))) bt378.1 bt378.2.1 bt378.2.2.1)))) = some r := H
              have A104 := Aside0.mk A1040
              clear A1040
              replace H := Option.bind_eq_some_iff.mp H
              obtain ⟨⟨t378, t379, t380, t381⟩, A1050, H⟩ := H
              replace H : ((spec_FilterOf.f kj27 t374 t375).bind fun bt383 => (if (t381 != bt383.2.2.2) = true then (laws_FnBloom.j2 kj27 t374 t375 t381 true t378 t379 t380) else (laws_FnBloom.j2 kj27 t374 t375 t381 (!(t378 == bt383.1) || (!(t379.toList == bt383.2.1.toList) || (!(t380 == bt383.2.2.1)))) t378 t379 t380))) = some r := H
              have A105 := Aside0.mk A1050
              clear A1050
              replace H := Option.bind_eq_some_iff.mp H
              obtain ⟨⟨t383, t384, t385, t386⟩, A1060, H⟩ := H
              replace H : (if (t381 != t386) = true then (laws_FnBloom.j2 kj27 t374 t375 t381 true t378 t379 t380) else (laws_FnBloom.j2 kj27 t374 t375 t381 (!(t378 == t383) || (!(t379.toList == t384.toList) || (!(t380 == t385)))) t378 t379 t380)) = some r := H
              have A106 := Aside0.mk A1060
              clear A1060
              have HC107 := Aside0.mk H
              clear H
              go_upto_region 17 with (first | ((with_reducible refine gate_callee (f := 38) rfl ?_); refine goesL_ (some 106) rfl rfl Try.func38 (by kernel_rfl) rfl #[.slice A1 l1.length c1] rfl (by (try simp only [List.map_toArray, List.map_cons, List.map_nil]); first | done | rfl | (simp only [List.length_drop, List.length_take]; rfl)) ?_; (with_reducible refine (spec_DrawFilterOf.calls kj27 _ _ l1 t374 t375 _ ?side1 ?side2 A104.out).mono ?_); (case side1 => repeat (first | exact (Kd.C_below HR1.out HB.out) | (with_reducible refine Kd.C_alloc ?_ _) | (with_reducible refine Kd.C_drewN ?_ _) | (with_reducible refine Kd.C_drew ?_))); (case side2 => exact HC1.out); rintro e w108 ⟨v376, rfl, ho0, hb⟩; refine ⟨_, rfl, ?_⟩; have n0_ := Aside0.mk (Kd.R_lower ho0 (below_size (by repeat (first | (with_reducible first | exact HB.out | apply below_alloc | apply pw_below_drewN | apply below_drew1 | refine below_set ?_ GE357.out | refine below_set ?_ GE362.out | refine below_set ?_ GE367.out) | exact HB.out)))); have n1_ := Aside0.mk (blk_below (g := gb357) (o := .cells #[.int .i64 t353, .string t354, .int .i64 t355] 27 (0, 0)) (by (with_reducible repeat (first | refine blk_drewN ?_ _ | refine blk_drew ?_ | refine blk_alloc ?_ _)); exact BK357.out) hb); have n2_ := Aside0.mk (blk_below (g := gb362) (o := .cells #[.int .i64 t358, .string t359, .int .i64 t360] 27 (0, 0)) (by (with_reducible repeat (first | refine blk_drewN ?_ _ | refine blk_drew ?_ | refine blk_alloc ?_ _)); exact BK362.out) hb); have n3_ := Aside0.mk (blk_below (g := gb367) (o := .cells #[.int .i64 t363, .string t364, .int .i64 t365] 27 (0, 0)) (by (with_reducible repeat (first | refine blk_drewN ?_ _ | refine blk_drew ?_ | refine blk_alloc ?_ _)); exact BK367.out) hb); have n4_ := Aside0.mk (below_step (by repeat (first | (with_reducible first | exact HB.out | apply below_alloc | apply pw_below_drewN | apply below_drew1 | refine below_set ?_ GE357.out | refine below_set ?_ GE362.out | refine below_set ?_ GE367.out) | exact HB.out)) hb); clear BK357; clear BK362; clear BK367; clear HB; have HO377 := n0_; have BK357 := n1_; have BK362 := n2_; have BK367 := n3_; have HB := n4_; clear n0_ n1_ n2_ n3_ n4_; (try clear hb); (try clear hb2); (try clear hk); (try clear hi); (try clear ho0); obtain ⟨Ao109, co109, eo109⟩ := Kd.R_slice HO377.out; subst eo109) | ((with_reducible refine gate_callee (f := 35) rfl ?_); refine goesL_ (some 112) rfl rfl Try.func35 (by kernel_rfl) rfl #[.slice Ao109 t374.length co109, .int .i64 t375] rfl (by (try simp only [List.map_toArray, List.map_cons, List.map_nil]); first | done | rfl | (simp only [List.length_drop, List.length_take]; rfl)) ?_; (with_reducible refine (impl_FilterOf.calls kj27 _ _ t374 t375 t378 t379 t380 t381 _ ?side1 ?side2 A105.out).mono ?_); (case side1 => repeat (first | exact (Kd.R_reads' HO377.out).2.2 | (with_reducible refine Kd.C_alloc ?_ _) | (with_reducible refine Kd.C_drewN ?_ _) | (with_reducible refine Kd.C_drew ?_))); (case side2 => exact (Kd.R_reads' HO377.out).2.1); rintro e w110 ⟨rfl, hb⟩; refine ⟨_, rfl, ?_⟩; have n0_ := Aside0.mk (Kd.R_below (by (with_reducible repeat (first | apply Kd.R_alloc | apply Kd.R_drewN | apply Kd.R_drew)); exact HO377.out) hb); have n1_ := Aside0.mk (blk_below (g := gb357) (o := .cells #[.int .i64 t353, .string t354, .int .i64 t355] 27 (0, 0)) (by (with_reducible repeat (first | refine blk_drewN ?_ _ | refine blk_drew ?_ | refine blk_alloc ?_ _)); exact BK357.out) hb); have n2_ := Aside0.mk (blk_below (g := gb362) (o := .cells #[.int .i64 t358, .string t359, .int .i64 t360] 27 (0, 0)) (by (with_reducible repeat (first | refine blk_drewN ?_ _ | refine blk_drew ?_ | refine blk_alloc ?_ _)); exact BK362.out) hb); have n3_ := Aside0.mk (blk_below (g := gb367) (o := .cells #[.int .i64 t363, .string t364, .int .i64 t365] 27 (0, 0)) (by (with_reducible repeat (first | refine blk_drewN ?_ _ | refine blk_drew ?_ | refine blk_alloc ?_ _)); exact BK367.out) hb); have n4_ := Aside0.mk (below_step (by repeat (first | (with_reducible first | exact HB.out | apply below_alloc | apply pw_below_drewN | apply below_drew1 | refine below_set ?_ GE357.out | refine below_set ?_ GE362.out | refine below_set ?_ GE367.out) | exact HB.out)) hb); clear HO377; clear BK357; clear BK362; clear BK367; clear HB; have HO377 := n0_; have BK357 := n1_; have BK362 := n2_; have BK367 := n3_; have HB := n4_; clear n0_ n1_ n2_ n3_ n4_; (try clear hb); (try clear hb2); (try clear hk); (try clear hi)) | ((with_reducible refine gate_dst (N := 19) rfl ?_); (try (refine gate_guard (by rfl) ?_; dsimp only)); refine box_event ?hg (N := 19) ?hd (cs := #[.int .i64 0, .string (⟨#[]⟩ : ByteArray), .int .i64 0]) (t := 27) ?hr ?_; (case hd => rfl); (case hg => rfl); (case hr => first | (go_simp; done) | (go_simp; rfl)); intro gb382 hg w111 hbox hb; have n0_ := Aside0.mk (Kd.R_below (by (with_reducible repeat (first | apply Kd.R_alloc | apply Kd.R_drewN | apply Kd.R_drew)); exact HO377.out) hb); have n1_ := Aside0.mk (blk_below (g := gb357) (o := .cells #[.int .i64 t353, .string t354, .int .i64 t355] 27 (0, 0)) (by (with_reducible repeat (first | refine blk_drewN ?_ _ | refine blk_drew ?_ | refine blk_alloc ?_ _)); exact BK357.out) hb); have n2_ := Aside0.mk (blk_below (g := gb362) (o := .cells #[.int .i64 t358, .string t359, .int .i64 t360] 27 (0, 0)) (by (with_reducible repeat (first | refine blk_drewN ?_ _ | refine blk_drew ?_ | refine blk_alloc ?_ _)); exact BK362.out) hb); have n3_ := Aside0.mk (blk_below (g := gb367) (o := .cells #[.int .i64 t363, .string t364, .int .i64 t365] 27 (0, 0)) (by (with_reducible repeat (first | refine blk_drewN ?_ _ | refine blk_drew ?_ | refine blk_alloc ?_ _)); exact BK367.out) hb); have n4_ := Aside0.mk (below_step (by repeat (first | (with_reducible first | exact HB.out | apply below_alloc | apply pw_below_drewN | apply below_drew1 | refine below_set ?_ GE357.out | refine below_set ?_ GE362.out | refine below_set ?_ GE367.out) | exact HB.out)) hb); have n5_ := Aside0.mk (hbox); have n6_ := Aside0.mk ((by rw [hg]; exact (below_size (by repeat (first | (with_reducible first | exact HB.out | apply below_alloc | apply pw_below_drewN | apply below_drew1 | refine below_set ?_ GE357.out | refine below_set ?_ GE362.out | refine below_set ?_ GE367.out) | exact HB.out))) : w.heap.size ≤ gb382)); have n7_ := Aside0.mk ((by rw [hg]; exact (below_size (by repeat (first | (with_reducible first | exact HB.out | apply below_alloc | apply pw_below_drewN | apply below_drew1 | refine below_set ?_ GE357.out | refine below_set ?_ GE362.out | refine below_set ?_ GE367.out) | exact HB.out))) : w.heap.size ≤ gb382)); have n8_ := Aside0.mk ((by rw [hg]; exact Nat.ne_of_lt (blk_lt (g := gb357) (o := .cells #[.int .i64 t353, .string t354, .int .i64 t355] 27 (0, 0)) (by (with_reducible repeat (first | refine blk_drewN ?_ _ | refine blk_drew ?_ | refine blk_alloc ?_ _)); exact BK357.out)) : gb357 ≠ gb382)); have n9_ := Aside0.mk ((by rw [hg]; exact Nat.ne_of_gt (blk_lt (g := gb357) (o := .cells #[.int .i64 t353, .string t354, .int .i64 t355] 27 (0, 0)) (by (with_reducible repeat (first | refine blk_drewN ?_ _ | refine blk_drew ?_ | refine blk_alloc ?_ _)); exact BK357.out)) : gb382 ≠ gb357)); have n10_ := Aside0.mk ((by rw [hg]; exact Nat.ne_of_lt (blk_lt (g := gb362) (o := .cells #[.int .i64 t358, .string t359, .int .i64 t360] 27 (0, 0)) (by (with_reducible repeat (first | refine blk_drewN ?_ _ | refine blk_drew ?_ | refine blk_alloc ?_ _)); exact BK362.out)) : gb362 ≠ gb382)); have n11_ := Aside0.mk ((by rw [hg]; exact Nat.ne_of_gt (blk_lt (g := gb362) (o := .cells #[.int .i64 t358, .string t359, .int .i64 t360] 27 (0, 0)) (by (with_reducible repeat (first | refine blk_drewN ?_ _ | refine blk_drew ?_ | refine blk_alloc ?_ _)); exact BK362.out)) : gb382 ≠ gb362)); have n12_ := Aside0.mk ((by rw [hg]; exact Nat.ne_of_lt (blk_lt (g := gb367) (o := .cells #[.int .i64 t363, .string t364, .int .i64 t365] 27 (0, 0)) (by (with_reducible repeat (first | refine blk_drewN ?_ _ | refine blk_drew ?_ | refine blk_alloc ?_ _)); exact BK367.out)) : gb367 ≠ gb382)); have n13_ := Aside0.mk ((by rw [hg]; exact Nat.ne_of_gt (blk_lt (g := gb367) (o := .cells #[.int .i64 t363, .string t364, .int .i64 t365] 27 (0, 0)) (by (with_reducible repeat (first | refine blk_drewN ?_ _ | refine blk_drew ?_ | refine blk_alloc ?_ _)); exact BK367.out)) : gb382 ≠ gb367)); clear HO377; clear BK357; clear BK362; clear BK367; clear HB; have HO377 := n0_; have BK357 := n1_; have BK362 := n2_; have BK367 := n3_; have HB := n4_; have BK382 := n5_; have GW382 := n6_; have GE382 := n7_; have NB357_382 := n8_; have NB382_357 := n9_; have NB362_382 := n10_; have NB382_362 := n11_; have NB367_382 := n12_; have NB382_367 := n13_; clear n0_ n1_ n2_ n3_ n4_ n5_ n6_ n7_ n8_ n9_ n10_ n11_ n12_ n13_; clear hb hbox hg; have hnb112 := NB382_357.out; have hnc112 := NB357_382.out; have hnb113 := NB382_362.out; have hnc113 := NB362_382.out; have hnb114 := NB382_367.out; have hnc114 := NB367_382.out; have hcz115_0 : w111.cell? ⟨gb382, 0, none⟩ = some (.int .i64 0) := (blk_cell BK382.out 0).trans rfl; have hcz115_1 : w111.cell? ⟨gb382, 1, none⟩ = some (.string (⟨#[]⟩ : ByteArray)) := (blk_cell BK382.out 1).trans rfl; have hcz115_2 : w111.cell? ⟨gb382, 2, none⟩ = some (.int .i64 0) := (blk_cell BK382.out 2).trans rfl; have hfz115_0 := blk_frozen BK382.out 0; have hfz115_1 := blk_frozen BK382.out 1; have hfz115_2 := blk_frozen BK382.out 2) | ((with_reducible refine gate_callee (f := 33) rfl ?_); refine goesL_ (some 118) rfl rfl Try.func33 (by kernel_rfl) rfl #[.slice Ao109 t374.length co109, .int .i64 t375] rfl (by (try simp only [List.map_toArray, List.map_cons, List.map_nil]); first | done | rfl | (simp only [List.length_drop, List.length_take]; rfl)) ?_; (with_reducible refine (spec_FilterOf.calls kj27 _ _ t374 t375 t383 t384 t385 t386 _ ?side1 ?side2 A106.out).mono ?_); (case side1 => refine (Kd.R_reads' (e := 9) (base := w.heap.size) (ok := fun k_ => True) (n := t374.length) (c := co109) ?_).2.2; exact (by (with_reducible repeat (first | apply Kd.R_alloc | apply Kd.R_drewN | apply Kd.R_drew)); exact (Kd.R_mono (Kd.R_far (p := ⟨gb382, 2, none⟩) (Kd.R_far (p := ⟨gb382, 1, none⟩) (Kd.R_far (p := ⟨gb382, 0, none⟩) (Kd.R_types HO377.out BK382.out (by decide)) (fun _ hk => hk.2) (.int .i64 t378)) (fun _ hk => hk.2) (.string t379)) (fun _ hk => hk.2) (.int .i64 t380)) (fun _ h_ => h_.1)))); (case side2 => exact (Kd.R_reads' HO377.out).2.1); rintro e w116 ⟨rfl, hb⟩; refine ⟨_, rfl, ?_⟩; have n0_ := Aside0.mk (Kd.R_below (by (with_reducible repeat (first | apply Kd.R_alloc | apply Kd.R_drewN | apply Kd.R_drew)); exact (Kd.R_mono (Kd.R_far (p := ⟨gb382, 2, none⟩) (Kd.R_far (p := ⟨gb382, 1, none⟩) (Kd.R_far (p := ⟨gb382, 0, none⟩) (Kd.R_types HO377.out BK382.out (by decide)) (fun _ hk => hk.2) (.int .i64 t378)) (fun _ hk => hk.2) (.string t379)) (fun _ hk => hk.2) (.int .i64 t380)) (fun _ h_ => h_.1))) hb); have n1_ := Aside0.mk (blk_below (g := gb357) (o := .cells #[.int .i64 t353, .string t354, .int .i64 t355] 27 (0, 0)) (by (with_reducible repeat (first | refine blk_drewN ?_ _ | refine blk_drew ?_ | refine blk_alloc ?_ _)); refine blk_far ?_ NB357_382.out _; (with_reducible repeat (first | refine blk_drewN ?_ _ | refine blk_drew ?_ | refine blk_alloc ?_ _)); refine blk_far ?_ NB357_382.out _; (with_reducible repeat (first | refine blk_drewN ?_ _ | refine blk_drew ?_ | refine blk_alloc ?_ _)); refine blk_far ?_ NB357_382.out _; (with_reducible repeat (first | refine blk_drewN ?_ _ | refine blk_drew ?_ | refine blk_alloc ?_ _)); exact BK357.out) hb); have n2_ := Aside0.mk (blk_below (g := gb362) (o := .cells #[.int .i64 t358, .string t359, .int .i64 t360] 27 (0, 0)) (by (with_reducible repeat (first | refine blk_drewN ?_ _ | refine blk_drew ?_ | refine blk_alloc ?_ _)); refine blk_far ?_ NB362_382.out _; (with_reducible repeat (first | refine blk_drewN ?_ _ | refine blk_drew ?_ | refine blk_alloc ?_ _)); refine blk_far ?_ NB362_382.out _; (with_reducible repeat (first | refine blk_drewN ?_ _ | refine blk_drew ?_ | refine blk_alloc ?_ _)); refine blk_far ?_ NB362_382.out _; (with_reducible repeat (first | refine blk_drewN ?_ _ | refine blk_drew ?_ | refine blk_alloc ?_ _)); exact BK362.out) hb); have n3_ := Aside0.mk (blk_below (g := gb367) (o := .cells #[.int .i64 t363, .string t364, .int .i64 t365] 27 (0, 0)) (by (with_reducible repeat (first | refine blk_drewN ?_ _ | refine blk_drew ?_ | refine blk_alloc ?_ _)); refine blk_far ?_ NB367_382.out _; (with_reducible repeat (first | refine blk_drewN ?_ _ | refine blk_drew ?_ | refine blk_alloc ?_ _)); refine blk_far ?_ NB367_382.out _; (with_reducible repeat (first | refine blk_drewN ?_ _ | refine blk_drew ?_ | refine blk_alloc ?_ _)); refine blk_far ?_ NB367_382.out _; (with_reducible repeat (first | refine blk_drewN ?_ _ | refine blk_drew ?_ | refine blk_alloc ?_ _)); exact BK367.out) hb); have n4_ := Aside0.mk (blk_below (g := gb382) (o := .cells #[.int .i64 t378, .string t379, .int .i64 t380] 27 (0, 0)) (by (with_reducible repeat (first | refine blk_drewN ?_ _ | refine blk_drew ?_ | refine blk_alloc ?_ _)); refine blk_put (cs := #[.int .i64 t378, .string t379, .int .i64 0]) ?_ 2 _ rfl; (with_reducible repeat (first | refine blk_drewN ?_ _ | refine blk_drew ?_ | refine blk_alloc ?_ _)); refine blk_put (cs := #[.int .i64 t378, .string (⟨#[]⟩ : ByteArray), .int .i64 0]) ?_ 1 _ rfl; (with_reducible repeat (first | refine blk_drewN ?_ _ | refine blk_drew ?_ | refine blk_alloc ?_ _)); refine blk_put (cs := #[.int .i64 0, .string (⟨#[]⟩ : ByteArray), .int .i64 0]) ?_ 0 _ rfl; (with_reducible repeat (first | refine blk_drewN ?_ _ | refine blk_drew ?_ | refine blk_alloc ?_ _)); exact BK382.out) hb); have n5_ := Aside0.mk (below_step (by repeat (first | (with_reducible first | exact HB.out | apply below_alloc | apply pw_below_drewN | apply below_drew1 | refine below_set ?_ GE357.out | refine below_set ?_ GE362.out | refine below_set ?_ GE367.out | refine below_set ?_ GE382.out) | exact HB.out)) hb); clear HO377; clear BK357; clear BK362; clear BK367; clear BK382; clear HB; have HO377 := n0_; have BK357 := n1_; have BK362 := n2_; have BK367 := n3_; have BK382 := n4_; have HB := n5_; clear n0_ n1_ n2_ n3_ n4_ n5_; (try clear hb); (try clear hb2); (try clear hk); (try clear hi)) | ((with_reducible refine gate_dst (N := 21) rfl ?_); (try (refine gate_guard (by rfl) ?_; dsimp only)); refine box_event ?hg (N := 21) ?hd (cs := #[.int .i64 0, .string (⟨#[]⟩ : ByteArray), .int .i64 0]) (t := 27) ?hr ?_; (case hd => rfl); (case hg => rfl); (case hr => first | (go_simp; done) | (go_simp; rfl)); intro gb387 hg w117 hbox hb; have n0_ := Aside0.mk (Kd.R_below (by (with_reducible repeat (first | apply Kd.R_alloc | apply Kd.R_drewN | apply Kd.R_drew)); exact HO377.out) hb); have n1_ := Aside0.mk (blk_below (g := gb357) (o := .cells #[.int .i64 t353, .string t354, .int .i64 t355] 27 (0, 0)) (by (with_reducible repeat (first | refine blk_drewN ?_ _ | refine blk_drew ?_ | refine blk_alloc ?_ _)); exact BK357.out) hb); have n2_ := Aside0.mk (blk_below (g := gb362) (o := .cells #[.int .i64 t358, .string t359, .int .i64 t360] 27 (0, 0)) (by (with_reducible repeat (first | refine blk_drewN ?_ _ | refine blk_drew ?_ | refine blk_alloc ?_ _)); exact BK362.out) hb); have n3_ := Aside0.mk (blk_below (g := gb367) (o := .cells #[.int .i64 t363, .string t364, .int .i64 t365] 27 (0, 0)) (by (with_reducible repeat (first | refine blk_drewN ?_ _ | refine blk_drew ?_ | refine blk_alloc ?_ _)); exact BK367.out) hb); have n4_ := Aside0.mk (blk_below (g := gb382) (o := .cells #[.int .i64 t378, .string t379, .int .i64 t380] 27 (0, 0)) (by (with_reducible repeat (first | refine blk_drewN ?_ _ | refine blk_drew ?_ | refine blk_alloc ?_ _)); exact BK382.out) hb); have n5_ := Aside0.mk (below_step (by repeat (first | (with_reducible first | exact HB.out | apply below_alloc | apply pw_below_drewN | apply below_drew1 | refine below_set ?_ GE357.out | refine below_set ?_ GE362.out | refine below_set ?_ GE367.out | refine below_set ?_ GE382.out) | exact HB.out)) hb); have n6_ := Aside0.mk (hbox); have n7_ := Aside0.mk ((by rw [hg]; exact (below_size (by repeat (first | (with_reducible first | exact HB.out | apply below_alloc | apply pw_below_drewN | apply below_drew1 | refine below_set ?_ GE357.out | refine below_set ?_ GE362.out | refine below_set ?_ GE367.out | refine below_set ?_ GE382.out) | exact HB.out))) : w.heap.size ≤ gb387)); have n8_ := Aside0.mk ((by rw [hg]; exact (below_size (by repeat (first | (with_reducible first | exact HB.out | apply below_alloc | apply pw_below_drewN | apply below_drew1 | refine below_set ?_ GE357.out | refine below_set ?_ GE362.out | refine below_set ?_ GE367.out | refine below_set ?_ GE382.out) | exact HB.out))) : w.heap.size ≤ gb387)); have n9_ := Aside0.mk ((by rw [hg]; exact Nat.ne_of_lt (blk_lt (g := gb357) (o := .cells #[.int .i64 t353, .string t354, .int .i64 t355] 27 (0, 0)) (by (with_reducible repeat (first | refine blk_drewN ?_ _ | refine blk_drew ?_ | refine blk_alloc ?_ _)); exact BK357.out)) : gb357 ≠ gb387)); have n10_ := Aside0.mk ((by rw [hg]; exact Nat.ne_of_gt (blk_lt (g := gb357) (o := .cells #[.int .i64 t353, .string t354, .int .i64 t355] 27 (0, 0)) (by (with_reducible repeat (first | refine blk_drewN ?_ _ | refine blk_drew ?_ | refine blk_alloc ?_ _)); exact BK357.out)) : gb387 ≠ gb357)); have n11_ := Aside0.mk ((by rw [hg]; exact Nat.ne_of_lt (blk_lt (g := gb362) (o := .cells #[.int .i64 t358, .string t359, .int .i64 t360] 27 (0, 0)) (by (with_reducible repeat (first | refine blk_drewN ?_ _ | refine blk_drew ?_ | refine blk_alloc ?_ _)); exact BK362.out)) : gb362 ≠ gb387)); have n12_ := Aside0.mk ((by rw [hg]; exact Nat.ne_of_gt (blk_lt (g := gb362) (o := .cells #[.int .i64 t358, .string t359, .int .i64 t360] 27 (0, 0)) (by (with_reducible repeat (first | refine blk_drewN ?_ _ | refine blk_drew ?_ | refine blk_alloc ?_ _)); exact BK362.out)) : gb387 ≠ gb362)); have n13_ := Aside0.mk ((by rw [hg]; exact Nat.ne_of_lt (blk_lt (g := gb367) (o := .cells #[.int .i64 t363, .string t364, .int .i64 t365] 27 (0, 0)) (by (with_reducible repeat (first | refine blk_drewN ?_ _ | refine blk_drew ?_ | refine blk_alloc ?_ _)); exact BK367.out)) : gb367 ≠ gb387)); have n14_ := Aside0.mk ((by rw [hg]; exact Nat.ne_of_gt (blk_lt (g := gb367) (o := .cells #[.int .i64 t363, .string t364, .int .i64 t365] 27 (0, 0)) (by (with_reducible repeat (first | refine blk_drewN ?_ _ | refine blk_drew ?_ | refine blk_alloc ?_ _)); exact BK367.out)) : gb387 ≠ gb367)); have n15_ := Aside0.mk ((by rw [hg]; exact Nat.ne_of_lt (blk_lt (g := gb382) (o := .cells #[.int .i64 t378, .string t379, .int .i64 t380] 27 (0, 0)) (by (with_reducible repeat (first | refine blk_drewN ?_ _ | refine blk_drew ?_ | refine blk_alloc ?_ _)); exact BK382.out)) : gb382 ≠ gb387)); have n16_ := Aside0.mk ((by rw [hg]; exact Nat.ne_of_gt (blk_lt (g := gb382) (o := .cells #[.int .i64 t378, .string t379, .int .i64 t380] 27 (0, 0)) (by (with_reducible repeat (first | refine blk_drewN ?_ _ | refine blk_drew ?_ | refine blk_alloc ?_ _)); exact BK382.out)) : gb387 ≠ gb382)); clear HO377; clear BK357; clear BK362; clear BK367; clear BK382; clear HB; have HO377 := n0_; have BK357 := n1_; have BK362 := n2_; have BK367 := n3_; have BK382 := n4_; have HB := n5_; have BK387 := n6_; have GW387 := n7_; have GE387 := n8_; have NB357_387 := n9_; have NB387_357 := n10_; have NB362_387 := n11_; have NB387_362 := n12_; have NB367_387 := n13_; have NB387_367 := n14_; have NB382_387 := n15_; have NB387_382 := n16_; clear n0_ n1_ n2_ n3_ n4_ n5_ n6_ n7_ n8_ n9_ n10_ n11_ n12_ n13_ n14_ n15_ n16_; clear hb hbox hg; have hnb118 := NB387_357.out; have hnc118 := NB357_387.out; have hnb119 := NB387_362.out; have hnc119 := NB362_387.out; have hnb120 := NB387_367.out; have hnc120 := NB367_387.out; have hnb121 := NB387_382.out; have hnc121 := NB382_387.out; have hcz122_0 : w117.cell? ⟨gb387, 0, none⟩ = some (.int .i64 0) := (blk_cell BK387.out 0).trans rfl; have hcz122_1 : w117.cell? ⟨gb387, 1, none⟩ = some (.string (⟨#[]⟩ : ByteArray)) := (blk_cell BK387.out 1).trans rfl; have hcz122_2 : w117.cell? ⟨gb387, 2, none⟩ = some (.int .i64 0) := (blk_cell BK387.out 2).trans rfl; have hfz122_0 := blk_frozen BK387.out 0; have hfz122_1 := blk_frozen BK387.out 1; have hfz122_2 := blk_frozen BK387.out 2))
              (try simp only [Act.put, List.setIfInBounds_toArray, List.set_cons_zero, List.set_cons_succ])
              go_cut [128] (fun v128 wc => ∃ (kq : Nat) (x128_106 : Bool), v128 = .bool x128_106 ∧ Aside0 (laws_FnBloom.j2 kq t374 t375 t381 x128_106 t378 t379 t380 = some r) ∧ Aside0 (kq ≤ kj27) ∧ Aside0 (Kd.R Kd.string 9 wc w.heap.size (fun _ => True) (.slice Ao109 t374.length co109) t374) ∧ Aside0 (wc.heap[gb357]? = some (.cells #[.int .i64 t353, .string t354, .int .i64 t355] 27 (0, 0))) ∧ Aside0 (wc.heap[gb362]? = some (.cells #[.int .i64 t358, .string t359, .int .i64 t360] 27 (0, 0))) ∧ Aside0 (wc.heap[gb367]? = some (.cells #[.int .i64 t363, .string t364, .int .i64 t365] 27 (0, 0))) ∧ Aside0 (wc.heap[gb382]? = some (.cells #[.int .i64 t378, .string t379, .int .i64 t380] 27 (0, 0))) ∧ Aside0 (wc.heap[gb387]? = some (.cells #[.int .i64 t383, .string t384, .int .i64 t385] 27 (0, 0))) ∧ Aside0 (Below w.heap.size w wc))
              case first =>
                have H := HC107.out
                clear HC107
                by_cases c123 : (t381 != t386) = true
                · rw [if_pos c123] at H
                  have c123b0 : (t381 != t386) = true := c123
                  (try (have c123b1 : decide (t381 = t386) = false := by simpa using c123))
                  (try (have c123b2 : (t381 == t386) = false := by simpa using c123))
                  (try (have c123b3 : ¬ (t381 = t386) := by simpa using c123))
                  clear c123
                  (first | rw [c123b0] | (simp only [i64_w, i32_w]; rw [c123b0]) | rw [c123b1] | skip)
                  have H' := Aside0.mk H
                  clear H
                  go_wp2
                  go_meet
                  case rel => exact ⟨_, (true), (by first | rfl | (simp; done) | (simp [*]; done)), H', ⟨by have := HJ6.out; have := HJ27.out; first | omega | exact Nat.le_refl _⟩, ⟨by (with_reducible repeat (first | apply Kd.R_alloc | apply Kd.R_drewN | apply Kd.R_drew)); exact Kd.R_mono (Kd.R_far (p := ⟨gb387, 2, none⟩) (Kd.R_far (p := ⟨gb387, 1, none⟩) (Kd.R_far (p := ⟨gb387, 0, none⟩) (Kd.R_types HO377.out BK387.out (by decide)) (fun _ hk => hk.2) (.int .i64 t383)) (fun _ hk => hk.2) (.string t384)) (fun _ hk => hk.2) (.int .i64 t385)) (fun _ hk => trivial)⟩, ⟨by (with_reducible repeat (first | refine blk_drewN ?_ _ | refine blk_drew ?_ | refine blk_alloc ?_ _)); refine blk_far ?_ NB357_387.out _; (with_reducible repeat (first | refine blk_drewN ?_ _ | refine blk_drew ?_ | refine blk_alloc ?_ _)); refine blk_far ?_ NB357_387.out _; (with_reducible repeat (first | refine blk_drewN ?_ _ | refine blk_drew ?_ | refine blk_alloc ?_ _)); refine blk_far ?_ NB357_387.out _; (with_reducible repeat (first | refine blk_drewN ?_ _ | refine blk_drew ?_ | refine blk_alloc ?_ _)); exact BK357.out⟩, ⟨by (with_reducible repeat (first | refine blk_drewN ?_ _ | refine blk_drew ?_ | refine blk_alloc ?_ _)); refine blk_far ?_ NB362_387.out _; (with_reducible repeat (first | refine blk_drewN ?_ _ | refine blk_drew ?_ | refine blk_alloc ?_ _)); refine blk_far ?_ NB362_387.out _; (with_reducible repeat (first | refine blk_drewN ?_ _ | refine blk_drew ?_ | refine blk_alloc ?_ _)); refine blk_far ?_ NB362_387.out _; (with_reducible repeat (first | refine blk_drewN ?_ _ | refine blk_drew ?_ | refine blk_alloc ?_ _)); exact BK362.out⟩, ⟨by (with_reducible repeat (first | refine blk_drewN ?_ _ | refine blk_drew ?_ | refine blk_alloc ?_ _)); refine blk_far ?_ NB367_387.out _; (with_reducible repeat (first | refine blk_drewN ?_ _ | refine blk_drew ?_ | refine blk_alloc ?_ _)); refine blk_far ?_ NB367_387.out _; (with_reducible repeat (first | refine blk_drewN ?_ _ | refine blk_drew ?_ | refine blk_alloc ?_ _)); refine blk_far ?_ NB367_387.out _; (with_reducible repeat (first | refine blk_drewN ?_ _ | refine blk_drew ?_ | refine blk_alloc ?_ _)); exact BK367.out⟩, ⟨by (with_reducible repeat (first | refine blk_drewN ?_ _ | refine blk_drew ?_ | refine blk_alloc ?_ _)); refine blk_far ?_ NB382_387.out _; (with_reducible repeat (first | refine blk_drewN ?_ _ | refine blk_drew ?_ | refine blk_alloc ?_ _)); refine blk_far ?_ NB382_387.out _; (with_reducible repeat (first | refine blk_drewN ?_ _ | refine blk_drew ?_ | refine blk_alloc ?_ _)); refine blk_far ?_ NB382_387.out _; (with_reducible repeat (first | refine blk_drewN ?_ _ | refine blk_drew ?_ | refine blk_alloc ?_ _)); exact BK382.out⟩, ⟨by (with_reducible repeat (first | refine blk_drewN ?_ _ | refine blk_drew ?_ | refine blk_alloc ?_ _)); refine blk_put (cs := #[.int .i64 t383, .string t384, .int .i64 0]) ?_ 2 _ rfl; (with_reducible repeat (first | refine blk_drewN ?_ _ | refine blk_drew ?_ | refine blk_alloc ?_ _)); refine blk_put (cs := #[.int .i64 t383, .string (⟨#[]⟩ : ByteArray), .int .i64 0]) ?_ 1 _ rfl; (with_reducible repeat (first | refine blk_drewN ?_ _ | refine blk_drew ?_ | refine blk_alloc ?_ _)); refine blk_put (cs := #[.int .i64 0, .string (⟨#[]⟩ : ByteArray), .int .i64 0]) ?_ 0 _ rfl; (with_reducible repeat (first | refine blk_drewN ?_ _ | refine blk_drew ?_ | refine blk_alloc ?_ _)); exact BK387.out⟩, ⟨by repeat (first | (with_reducible first | exact HB.out | apply below_alloc | apply pw_below_drewN | apply below_drew1 | refine below_set ?_ GE357.out | refine below_set ?_ GE362.out | refine below_set ?_ GE367.out | refine below_set ?_ GE382.out | refine below_set ?_ GE387.out) | exact HB.out)⟩⟩
                · rw [if_neg c123] at H
                  have c123b0 : (t381 != t386) = false := by simpa using c123
                  (try (have c123b1 : decide (t381 = t386) = true := by simpa using c123))
                  (try (have c123b2 : (t381 == t386) = true := by simpa using c123))
                  clear c123
                  (first | rw [c123b0] | (simp only [i64_w, i32_w]; rw [c123b0]) | rw [c123b1] | skip)
                  have H' := Aside0.mk H
                  clear H
                  have hnb124 := NB382_357.out
                  have hnc124 := NB357_382.out
                  have hnb125 := NB382_362.out
                  have hnc125 := NB362_382.out
                  have hnb126 := NB382_367.out
                  have hnc126 := NB367_382.out
                  have hnb127 := NB382_387.out
                  have hnc127 := NB387_382.out
                  have hcz128_0 : w117.cell? ⟨gb382, 0, none⟩ = some (.int .i64 t378) := (blk_cell BK382.out 0).trans rfl
                  have hcz128_1 : w117.cell? ⟨gb382, 1, none⟩ = some (.string t379) := (blk_cell BK382.out 1).trans rfl
                  have hcz128_2 : w117.cell? ⟨gb382, 2, none⟩ = some (.int .i64 t380) := (blk_cell BK382.out 2).trans rfl
                  have hfz128_0 := blk_frozen BK382.out 0
                  have hfz128_1 := blk_frozen BK382.out 1
                  have hfz128_2 := blk_frozen BK382.out 2
                  have hnb129 := NB387_357.out
                  have hnc129 := NB357_387.out
                  have hnb130 := NB387_362.out
                  have hnc130 := NB362_387.out
                  have hnb131 := NB387_367.out
                  have hnc131 := NB367_387.out
                  have hcz132_0 : w117.cell? ⟨gb387, 0, none⟩ = some (.int .i64 0) := (blk_cell BK387.out 0).trans rfl
                  have hcz132_1 : w117.cell? ⟨gb387, 1, none⟩ = some (.string (⟨#[]⟩ : ByteArray)) := (blk_cell BK387.out 1).trans rfl
                  have hcz132_2 : w117.cell? ⟨gb387, 2, none⟩ = some (.int .i64 0) := (blk_cell BK387.out 2).trans rfl
                  have hfz132_0 := blk_frozen BK387.out 0
                  have hfz132_1 := blk_frozen BK387.out 1
                  have hfz132_2 := blk_frozen BK387.out 2
                  go_wp2
                  go_meet
                  case rel => exact ⟨_, ((!(t378 == t383) || (!(t379.toList == t384.toList) || (!(t380 == t385))))), (by first | rfl | (simp; done) | (simp [*]; done)), H', ⟨by have := HJ6.out; have := HJ27.out; first | omega | exact Nat.le_refl _⟩, ⟨by (with_reducible repeat (first | apply Kd.R_alloc | apply Kd.R_drewN | apply Kd.R_drew)); exact Kd.R_mono (Kd.R_far (p := ⟨gb387, 2, none⟩) (Kd.R_far (p := ⟨gb387, 1, none⟩) (Kd.R_far (p := ⟨gb387, 0, none⟩) (Kd.R_types HO377.out BK387.out (by decide)) (fun _ hk => hk.2) (.int .i64 t383)) (fun _ hk => hk.2) (.string t384)) (fun _ hk => hk.2) (.int .i64 t385)) (fun _ hk => trivial)⟩, ⟨by (with_reducible repeat (first | refine blk_drewN ?_ _ | refine blk_drew ?_ | refine blk_alloc ?_ _)); refine blk_far ?_ NB357_387.out _; (with_reducible repeat (first | refine blk_drewN ?_ _ | refine blk_drew ?_ | refine blk_alloc ?_ _)); refine blk_far ?_ NB357_387.out _; (with_reducible repeat (first | refine blk_drewN ?_ _ | refine blk_drew ?_ | refine blk_alloc ?_ _)); refine blk_far ?_ NB357_387.out _; (with_reducible repeat (first | refine blk_drewN ?_ _ | refine blk_drew ?_ | refine blk_alloc ?_ _)); exact BK357.out⟩, ⟨by (with_reducible repeat (first | refine blk_drewN ?_ _ | refine blk_drew ?_ | refine blk_alloc ?_ _)); refine blk_far ?_ NB362_387.out _; (with_reducible repeat (first | refine blk_drewN ?_ _ | refine blk_drew ?_ | refine blk_alloc ?_ _)); refine blk_far ?_ NB362_387.out _; (with_reducible repeat (first | refine blk_drewN ?_ _ | refine blk_drew ?_ | refine blk_alloc ?_ _)); refine blk_far ?_ NB362_387.out _; (with_reducible repeat (first | refine blk_drewN ?_ _ | refine blk_drew ?_ | refine blk_alloc ?_ _)); exact BK362.out⟩, ⟨by (with_reducible repeat (first | refine blk_drewN ?_ _ | refine blk_drew ?_ | refine blk_alloc ?_ _)); refine blk_far ?_ NB367_387.out _; (with_reducible repeat (first | refine blk_drewN ?_ _ | refine blk_drew ?_ | refine blk_alloc ?_ _)); refine blk_far ?_ NB367_387.out _; (with_reducible repeat (first | refine blk_drewN ?_ _ | refine blk_drew ?_ | refine blk_alloc ?_ _)); refine blk_far ?_ NB367_387.out _; (with_reducible repeat (first | refine blk_drewN ?_ _ | refine blk_drew ?_ | refine blk_alloc ?_ _)); exact BK367.out⟩, ⟨by (with_reducible repeat (first | refine blk_drewN ?_ _ | refine blk_drew ?_ | refine blk_alloc ?_ _)); refine blk_far ?_ NB382_387.out _; (with_reducible repeat (first | refine blk_drewN ?_ _ | refine blk_drew ?_ | refine blk_alloc ?_ _)); refine blk_far ?_ NB382_387.out _; (with_reducible repeat (first | refine blk_drewN ?_ _ | refine blk_drew ?_ | refine blk_alloc ?_ _)); refine blk_far ?_ NB382_387.out _; (with_reducible repeat (first | refine blk_drewN ?_ _ | refine blk_drew ?_ | refine blk_alloc ?_ _)); exact BK382.out⟩, ⟨by (with_reducible repeat (first | refine blk_drewN ?_ _ | refine blk_drew ?_ | refine blk_alloc ?_ _)); refine blk_put (cs := #[.int .i64 t383, .string t384, .int .i64 0]) ?_ 2 _ rfl; (with_reducible repeat (first | refine blk_drewN ?_ _ | refine blk_drew ?_ | refine blk_alloc ?_ _)); refine blk_put (cs := #[.int .i64 t383, .string (⟨#[]⟩ : ByteArray), .int .i64 0]) ?_ 1 _ rfl; (with_reducible repeat (first | refine blk_drewN ?_ _ | refine blk_drew ?_ | refine blk_alloc ?_ _)); refine blk_put (cs := #[.int .i64 0, .string (⟨#[]⟩ : ByteArray), .int .i64 0]) ?_ 0 _ rfl; (with_reducible repeat (first | refine blk_drewN ?_ _ | refine blk_drew ?_ | refine blk_alloc ?_ _)); exact BK387.out⟩, ⟨by repeat (first | (with_reducible first | exact HB.out | apply below_alloc | apply pw_below_drewN | apply below_drew1 | refine below_set ?_ GE357.out | refine below_set ?_ GE362.out | refine below_set ?_ GE367.out | refine below_set ?_ GE382.out | refine below_set ?_ GE387.out) | exact HB.out)⟩⟩
              case rest =>
                clear HC107
                try clear c1
                try clear c2
                try clear p2
                try clear c3
                try clear c3b0
                try clear c4
                try clear c5
                try clear c6
                try clear p6
                try clear c7
                try clear c8
                try clear c9
                try clear c11
                try clear c12
                try clear c13
                try clear c15
                try clear c18
                try clear c19
                try clear c21
                try clear c21b0
                try clear c21b1
                try clear c21b2
                try clear c22
                try clear c23
                try clear c25
                try clear c26
                try clear c27
                try clear c29
                try clear c33
                try clear c34
                try clear c35
                try clear c36
                try clear c37
                try clear c37b0
                try clear c37b1
                try clear c38
                try clear c39
                try clear c42
                try clear c47
                try clear c47b0
                try clear c48
                try clear c49
                try clear c52
                try clear c58
                try clear c59
                try clear c62
                try clear p64
                try clear c68
                try clear c69
                try clear c72
                try clear c77
                try clear c78
                try clear c81
                try clear c86
                try clear c87
                try clear c90
                try clear c95
                try clear c96
                try clear c99
                try clear c112
                try clear c113
                try clear c114
                try clear c118
                try clear c119
                try clear c120
                try clear c121
                try clear c123
                try clear c123b0
                try clear c123b1
                try clear c123b2
                try clear c124
                try clear c125
                try clear c126
                try clear c127
                try clear c129
                try clear c130
                try clear c131
                try clear hcz100_0
                try clear hcz100_1
                try clear hcz100_2
                try clear hcz102_0
                try clear hcz102_1
                try clear hcz102_2
                try clear hcz10_0
                try clear hcz10_1
                try clear hcz10_2
                try clear hcz115_0
                try clear hcz115_1
                try clear hcz115_2
                try clear hcz122_0
                try clear hcz122_1
                try clear hcz122_2
                try clear hcz128_0
                try clear hcz128_1
                try clear hcz128_2
                try clear hcz132_0
                try clear hcz132_1
                try clear hcz132_2
                try clear hcz14_0
                try clear hcz14_1
                try clear hcz14_2
                try clear hcz15_0
                try clear hcz15_1
                try clear hcz15_2
                try clear hcz20_0
                try clear hcz20_1
                try clear hcz20_2
                try clear hcz24_0
                try clear hcz24_1
                try clear hcz24_2
                try clear hcz26_0
                try clear hcz26_1
                try clear hcz26_2
                try clear hcz40_0
                try clear hcz40_1
                try clear hcz40_2
                try clear hcz43_0
                try clear hcz43_1
                try clear hcz43_2
                try clear hcz45_0
                try clear hcz45_1
                try clear hcz45_2
                try clear hcz50_0
                try clear hcz50_1
                try clear hcz50_2
                try clear hcz53_0
                try clear hcz53_1
                try clear hcz53_2
                try clear hcz55_0
                try clear hcz55_1
                try clear hcz55_2
                try clear hcz57_0
                try clear hcz57_1
                try clear hcz57_2
                try clear hcz60_0
                try clear hcz60_1
                try clear hcz60_2
                try clear hcz63_0
                try clear hcz63_1
                try clear hcz63_2
                try clear hcz65_0
                try clear hcz65_1
                try clear hcz65_2
                try clear hcz67_0
                try clear hcz67_1
                try clear hcz67_2
                try clear hcz70_0
                try clear hcz70_1
                try clear hcz70_2
                try clear hcz73_0
                try clear hcz73_1
                try clear hcz73_2
                try clear hcz75_0
                try clear hcz75_1
                try clear hcz75_2
                try clear hcz79_0
                try clear hcz79_1
                try clear hcz79_2
                try clear hcz82_0
                try clear hcz82_1
                try clear hcz82_2
                try clear hcz84_0
                try clear hcz84_1
                try clear hcz84_2
                try clear hcz88_0
                try clear hcz88_1
                try clear hcz88_2
                try clear hcz91_0
                try clear hcz91_1
                try clear hcz91_2
                try clear hcz93_0
                try clear hcz93_1
                try clear hcz93_2
                try clear hcz97_0
                try clear hcz97_1
                try clear hcz97_2
                try clear hfz100_0
                try clear hfz100_1
                try clear hfz100_2
                try clear hfz102_0
                try clear hfz102_1
                try clear hfz102_2
                try clear hfz10_0
                try clear hfz10_1
                try clear hfz10_2
                try clear hfz115_0
                try clear hfz115_1
                try clear hfz115_2
                try clear hfz122_0
                try clear hfz122_1
                try clear hfz122_2
                try clear hfz128_0
                try clear hfz128_1
                try clear hfz128_2
                try clear hfz132_0
                try clear hfz132_1
                try clear hfz132_2
                try clear hfz14_0
                try clear hfz14_1
                try clear hfz14_2
                try clear hfz15_0
                try clear hfz15_1
                try clear hfz15_2
                try clear hfz20_0
                try clear hfz20_1
                try clear hfz20_2
                try clear hfz24_0
                try clear hfz24_1
                try clear hfz24_2
                try clear hfz26_0
                try clear hfz26_1
                try clear hfz26_2
                try clear hfz40_0
                try clear hfz40_1
                try clear hfz40_2
                try clear hfz43_0
                try clear hfz43_1
                try clear hfz43_2
                try clear hfz45_0
                try clear hfz45_1
                try clear hfz45_2
                try clear hfz50_0
                try clear hfz50_1
                try clear hfz50_2
                try clear hfz53_0
                try clear hfz53_1
                try clear hfz53_2
                try clear hfz55_0
                try clear hfz55_1
                try clear hfz55_2
                try clear hfz57_0
                try clear hfz57_1
                try clear hfz57_2
                try clear hfz60_0
                try clear hfz60_1
                try clear hfz60_2
                try clear hfz63_0
                try clear hfz63_1
                try clear hfz63_2
                try clear hfz65_0
                try clear hfz65_1
                try clear hfz65_2
                try clear hfz67_0
                try clear hfz67_1
                try clear hfz67_2
                try clear hfz70_0
                try clear hfz70_1
                try clear hfz70_2
                try clear hfz73_0
                try clear hfz73_1
                try clear hfz73_2
                try clear hfz75_0
                try clear hfz75_1
                try clear hfz75_2
                try clear hfz79_0
                try clear hfz79_1
                try clear hfz79_2
                try clear hfz82_0
                try clear hfz82_1
                try clear hfz82_2
                try clear hfz84_0
                try clear hfz84_1
                try clear hfz84_2
                try clear hfz88_0
                try clear hfz88_1
                try clear hfz88_2
                try clear hfz91_0
                try clear hfz91_1
                try clear hfz91_2
                try clear hfz93_0
                try clear hfz93_1
                try clear hfz93_2
                try clear hfz97_0
                try clear hfz97_1
                try clear hfz97_2
                try clear p2
                try clear p6
                try clear p64
                obtain ⟨kq, x128_106, rfl, HA, HJ106, HO_17, BK357, BK362, BK367, BK382, BK387, HB⟩ := hcut
                cases kq with
                | zero => exact absurd HA.out (by simp [laws_FnBloom.j2])
                | succ kj106 =>
                  have H := HA.out
                  clear HA
                  simp only [laws_FnBloom.j2] at H
                  by_cases c133 : x128_106 = true
                  · subst c133
                    have H1 : (some false) = some r := by rw [if_pos rfl] at H; exact H
                    clear H
                    have H := H1
                    clear H1
                    obtain rfl := Option.some.inj H
                    go_wp2
                    go_ret
                    exact ⟨by first | rfl | (simp [errW_none, errW_some] <;> rfl) | (simp [*, errW_none, errW_some] <;> rfl), by repeat (first | (with_reducible first | exact HB.out | apply below_alloc | apply pw_below_drewN | apply below_drew1 | refine below_set ?_ GE357.out | refine below_set ?_ GE362.out | refine below_set ?_ GE367.out | refine below_set ?_ GE382.out | refine below_set ?_ GE387.out) | exact HB.out)⟩
                  · replace c133 := Bool.eq_false_iff.mpr c133
                    subst c133
                    have H1 : (if t381 = true then (laws_FnBloom.l0 kj106 t375 t374 (t374.length : Int) 0 t378 t379 t380) else (some (t378 == 0))) = some r := by rw [if_neg (show ¬ (false = true) by decide)] at H; exact H
                    clear H
                    have H := H1
                    clear H1
                    by_cases c134 : t381 = true
                    · subst c134
                      have H1 : (laws_FnBloom.l0 kj106 t375 t374 (t374.length : Int) 0 t378 t379 t380) = some r := by rw [if_pos rfl] at H; exact H
                      clear H
                      have H := H1
                      clear H1
                      have H' := Aside0.mk H
                      clear H
                      go_wp2
                      go_loopg [136] kj106 (fun kq v136 w' => ∃ (x136_4 : Int), v136 = .int .i64 x136_4 ∧ Aside0 (laws_FnBloom.l0 kq t375 t374 (t374.length : Int) x136_4 t378 t379 t380 = some r) ∧ Aside0 (kq ≤ kj106) ∧ Aside0 (Kd.R Kd.string 9 w' w.heap.size (fun _ => True) (.slice Ao109 t374.length co109) t374) ∧ Aside0 (w'.heap[gb357]? = some (.cells #[.int .i64 t353, .string t354, .int .i64 t355] 27 (0, 0))) ∧ Aside0 (w'.heap[gb362]? = some (.cells #[.int .i64 t358, .string t359, .int .i64 t360] 27 (0, 0))) ∧ Aside0 (w'.heap[gb367]? = some (.cells #[.int .i64 t363, .string t364, .int .i64 t365] 27 (0, 0))) ∧ Aside0 (w'.heap[gb382]? = some (.cells #[.int .i64 t378, .string t379, .int .i64 t380] 27 (0, 0))) ∧ Aside0 (w'.heap[gb387]? = some (.cells #[.int .i64 t383, .string t384, .int .i64 t385] 27 (0, 0))) ∧ Aside0 (Below w.heap.size w w'))
                      case atStart => exact ⟨(0), (by first | rfl | (simp; done) | (simp [*]; done)), H', ⟨Nat.le_refl _⟩, ⟨by (with_reducible repeat (first | apply Kd.R_alloc | apply Kd.R_drewN | apply Kd.R_drew)); exact HO_17.out⟩, ⟨by (with_reducible repeat (first | refine blk_drewN ?_ _ | refine blk_drew ?_ | refine blk_alloc ?_ _)); exact BK357.out⟩, ⟨by (with_reducible repeat (first | refine blk_drewN ?_ _ | refine blk_drew ?_ | refine blk_alloc ?_ _)); exact BK362.out⟩, ⟨by (with_reducible repeat (first | refine blk_drewN ?_ _ | refine blk_drew ?_ | refine blk_alloc ?_ _)); exact BK367.out⟩, ⟨by (with_reducible repeat (first | refine blk_drewN ?_ _ | refine blk_drew ?_ | refine blk_alloc ?_ _)); exact BK382.out⟩, ⟨by (with_reducible repeat (first | refine blk_drewN ?_ _ | refine blk_drew ?_ | refine blk_alloc ?_ _)); exact BK387.out⟩, ⟨by repeat (first | (with_reducible first | exact HB.out | apply below_alloc | apply pw_below_drewN | apply below_drew1 | refine below_set ?_ GE357.out | refine below_set ?_ GE362.out | refine below_set ?_ GE367.out | refine below_set ?_ GE382.out | refine below_set ?_ GE387.out) | exact HB.out)⟩⟩
                      case round =>
                        clear H'
                        try clear c1
                        try clear c2
                        try clear p2
                        try clear c3
                        try clear c3b0
                        try clear c4
                        try clear c5
                        try clear c6
                        try clear p6
                        try clear c7
                        try clear c8
                        try clear c9
                        try clear c11
                        try clear c12
                        try clear c13
                        try clear c15
                        try clear c18
                        try clear c19
                        try clear c21
                        try clear c21b0
                        try clear c21b1
                        try clear c21b2
                        try clear c22
                        try clear c23
                        try clear c25
                        try clear c26
                        try clear c27
                        try clear c29
                        try clear c33
                        try clear c34
                        try clear c35
                        try clear c36
                        try clear c37
                        try clear c37b0
                        try clear c37b1
                        try clear c38
                        try clear c39
                        try clear c42
                        try clear c47
                        try clear c47b0
                        try clear c48
                        try clear c49
                        try clear c52
                        try clear c58
                        try clear c59
                        try clear c62
                        try clear p64
                        try clear c68
                        try clear c69
                        try clear c72
                        try clear c77
                        try clear c78
                        try clear c81
                        try clear c86
                        try clear c87
                        try clear c90
                        try clear c95
                        try clear c96
                        try clear c99
                        try clear c112
                        try clear c113
                        try clear c114
                        try clear c118
                        try clear c119
                        try clear c120
                        try clear c121
                        try clear c123
                        try clear c123b0
                        try clear c123b1
                        try clear c123b2
                        try clear c124
                        try clear c125
                        try clear c126
                        try clear c127
                        try clear c129
                        try clear c130
                        try clear c131
                        try clear c133
                        try clear c134
                        try clear hcz100_0
                        try clear hcz100_1
                        try clear hcz100_2
                        try clear hcz102_0
                        try clear hcz102_1
                        try clear hcz102_2
                        try clear hcz10_0
                        try clear hcz10_1
                        try clear hcz10_2
                        try clear hcz115_0
                        try clear hcz115_1
                        try clear hcz115_2
                        try clear hcz122_0
                        try clear hcz122_1
                        try clear hcz122_2
                        try clear hcz128_0
                        try clear hcz128_1
                        try clear hcz128_2
                        try clear hcz132_0
                        try clear hcz132_1
                        try clear hcz132_2
                        try clear hcz14_0
                        try clear hcz14_1
                        try clear hcz14_2
                        try clear hcz15_0
                        try clear hcz15_1
                        try clear hcz15_2
                        try clear hcz20_0
                        try clear hcz20_1
                        try clear hcz20_2
                        try clear hcz24_0
                        try clear hcz24_1
                        try clear hcz24_2
                        try clear hcz26_0
                        try clear hcz26_1
                        try clear hcz26_2
                        try clear hcz40_0
                        try clear hcz40_1
                        try clear hcz40_2
                        try clear hcz43_0
                        try clear hcz43_1
                        try clear hcz43_2
                        try clear hcz45_0
                        try clear hcz45_1
                        try clear hcz45_2
                        try clear hcz50_0
                        try clear hcz50_1
                        try clear hcz50_2
                        try clear hcz53_0
                        try clear hcz53_1
                        try clear hcz53_2
                        try clear hcz55_0
                        try clear hcz55_1
                        try clear hcz55_2
                        try clear hcz57_0
                        try clear hcz57_1
                        try clear hcz57_2
                        try clear hcz60_0
                        try clear hcz60_1
                        try clear hcz60_2
                        try clear hcz63_0
                        try clear hcz63_1
                        try clear hcz63_2
                        try clear hcz65_0
                        try clear hcz65_1
                        try clear hcz65_2
                        try clear hcz67_0
                        try clear hcz67_1
                        try clear hcz67_2
                        try clear hcz70_0
                        try clear hcz70_1
                        try clear hcz70_2
                        try clear hcz73_0
                        try clear hcz73_1
                        try clear hcz73_2
                        try clear hcz75_0
                        try clear hcz75_1
                        try clear hcz75_2
                        try clear hcz79_0
                        try clear hcz79_1
                        try clear hcz79_2
                        try clear hcz82_0
                        try clear hcz82_1
                        try clear hcz82_2
                        try clear hcz84_0
                        try clear hcz84_1
                        try clear hcz84_2
                        try clear hcz88_0
                        try clear hcz88_1
                        try clear hcz88_2
                        try clear hcz91_0
                        try clear hcz91_1
                        try clear hcz91_2
                        try clear hcz93_0
                        try clear hcz93_1
                        try clear hcz93_2
                        try clear hcz97_0
                        try clear hcz97_1
                        try clear hcz97_2
                        try clear hfz100_0
                        try clear hfz100_1
                        try clear hfz100_2
                        try clear hfz102_0
                        try clear hfz102_1
                        try clear hfz102_2
                        try clear hfz10_0
                        try clear hfz10_1
                        try clear hfz10_2
                        try clear hfz115_0
                        try clear hfz115_1
                        try clear hfz115_2
                        try clear hfz122_0
                        try clear hfz122_1
                        try clear hfz122_2
                        try clear hfz128_0
                        try clear hfz128_1
                        try clear hfz128_2
                        try clear hfz132_0
                        try clear hfz132_1
                        try clear hfz132_2
                        try clear hfz14_0
                        try clear hfz14_1
                        try clear hfz14_2
                        try clear hfz15_0
                        try clear hfz15_1
                        try clear hfz15_2
                        try clear hfz20_0
                        try clear hfz20_1
                        try clear hfz20_2
                        try clear hfz24_0
                        try clear hfz24_1
                        try clear hfz24_2
                        try clear hfz26_0
                        try clear hfz26_1
                        try clear hfz26_2
                        try clear hfz40_0
                        try clear hfz40_1
                        try clear hfz40_2
                        try clear hfz43_0
                        try clear hfz43_1
                        try clear hfz43_2
                        try clear hfz45_0
                        try clear hfz45_1
                        try clear hfz45_2
                        try clear hfz50_0
                        try clear hfz50_1
                        try clear hfz50_2
                        try clear hfz53_0
                        try clear hfz53_1
                        try clear hfz53_2
                        try clear hfz55_0
                        try clear hfz55_1
                        try clear hfz55_2
                        try clear hfz57_0
                        try clear hfz57_1
                        try clear hfz57_2
                        try clear hfz60_0
                        try clear hfz60_1
                        try clear hfz60_2
                        try clear hfz63_0
                        try clear hfz63_1
                        try clear hfz63_2
                        try clear hfz65_0
                        try clear hfz65_1
                        try clear hfz65_2
                        try clear hfz67_0
                        try clear hfz67_1
                        try clear hfz67_2
                        try clear hfz70_0
                        try clear hfz70_1
                        try clear hfz70_2
                        try clear hfz73_0
                        try clear hfz73_1
                        try clear hfz73_2
                        try clear hfz75_0
                        try clear hfz75_1
                        try clear hfz75_2
                        try clear hfz79_0
                        try clear hfz79_1
                        try clear hfz79_2
                        try clear hfz82_0
                        try clear hfz82_1
                        try clear hfz82_2
                        try clear hfz84_0
                        try clear hfz84_1
                        try clear hfz84_2
                        try clear hfz88_0
                        try clear hfz88_1
                        try clear hfz88_2
                        try clear hfz91_0
                        try clear hfz91_1
                        try clear hfz91_2
                        try clear hfz93_0
                        try clear hfz93_1
                        try clear hfz93_2
                        try clear hfz97_0
                        try clear hfz97_1
                        try clear hfz97_2
                        try clear p2
                        try clear p6
                        try clear p64
                        obtain ⟨x136_4, rfl, HA, HK4, HO_134, BK357, BK362, BK367, BK382, BK387, HB⟩ := hrel
                        cases gk with
                        | zero => exact absurd HA.out (by simp [laws_FnBloom.l0])
                        | succ k4 =>
                          have H := HA.out
                          clear HA
                          simp only [laws_FnBloom.l0] at H
                          by_cases c135 : x136_4 < (t374.length : Int)
                          · rw [if_pos c135] at H
                            have c135b0 : decide (x136_4 < (t374.length : Int)) = true := decide_eq_true c135
                            clear c135
                            by_cases c136 : 0 ≤ x136_4
                            · rw [if_pos c136] at H
                              have c136b0 : decide (0 ≤ x136_4) = true := decide_eq_true c136
                              clear c136
                              by_cases c137 : x136_4 < (t374.length : Int)
                              · rw [if_pos c137] at H
                                have c137b0 : decide (x136_4 < (t374.length : Int)) = true := decide_eq_true c137
                                clear c137
                                replace H := Option.bind_eq_some_iff.mp H
                                obtain ⟨⟨t389, t390⟩, A1380, H⟩ := H
                                replace H : ((impl_PlacesOf.f k4 (rdOf ByteArray.empty t374 x136_4) t375).bind fun bt391 => (if t390 = true then (if bt391.2 = true then (if t389 = true then (if (bt391.1.length : Int) = t375 then (laws_FnBloom.l0 k4 t375 t374 (t374.length : Int) (wrap64 (x136_4 + 1)) t378 t379 t380) else (some false)) else (some false)) else (some false)) else (some false))) = some r := H
                                have A138 := Aside0.mk A1380
                                clear A1380
                                replace H := Option.bind_eq_some_iff.mp H
                                obtain ⟨⟨t391, t392⟩, A1390, H⟩ := H
                                replace H : (if t390 = true then (if t392 = true then (if t389 = true then (if (t391.length : Int) = t375 then (laws_FnBloom.l0 k4 t375 t374 (t374.length : Int) (wrap64 (x136_4 + 1)) t378 t379 t380) else (some false)) else (some false)) else (some false)) else (some false)) = some r := H
                                have A139 := Aside0.mk A1390
                                clear A1390
                                by_cases c140 : t390 = true
                                · subst c140
                                  have H1 : (if t392 = true then (if t389 = true then (if (t391.length : Int) = t375 then (laws_FnBloom.l0 k4 t375 t374 (t374.length : Int) (wrap64 (x136_4 + 1)) t378 t379 t380) else (some false)) else (some false)) else (some false)) = some r := by rw [if_pos rfl] at H; exact H
                                  clear H
                                  have H := H1
                                  clear H1
                                  by_cases c141 : t392 = true
                                  · subst c141
                                    have H1 : (if t389 = true then (if (t391.length : Int) = t375 then (laws_FnBloom.l0 k4 t375 t374 (t374.length : Int) (wrap64 (x136_4 + 1)) t378 t379 t380) else (some false)) else (some false)) = some r := by rw [if_pos rfl] at H; exact H
                                    clear H
                                    have H := H1
                                    clear H1
                                    by_cases c142 : t389 = true
                                    · subst c142
                                      have H1 : (if (t391.length : Int) = t375 then (laws_FnBloom.l0 k4 t375 t374 (t374.length : Int) (wrap64 (x136_4 + 1)) t378 t379 t380) else (some false)) = some r := by rw [if_pos rfl] at H; exact H
                                      clear H
                                      have H := H1
                                      clear H1
                                      by_cases c143 : (t391.length : Int) = t375
                                      · rw [if_pos c143] at H
                                        have c143b0 : ((t391.length : Int) == t375) = true := beq_iff_eq.mpr c143
                                        have c143b1 : ((t391.length : Int) != t375) = false := bne_eq_false_iff_eq.mpr c143
                                        clear c143
                                        have H' := Aside0.mk H
                                        clear H
                                        have p388 : 0 ≤ (x136_4 : Int) := of_decide_eq_true (by first | (with_reducible assumption) | assumption)
                                        have q388 : x136_4 < (t374.length : Int) := of_decide_eq_true (by first | (with_reducible assumption) | assumption)
                                        obtain ⟨ad388, e388, hx388_0⟩ := Kd.at_string (Kd.R_reads' HO_134.out).2.2 x136_4 p388 q388
                                        cases e388
                                        replace p388 := eq_true p388
                                        replace q388 := eq_true q388
                                        have hnb144 := NB382_357.out
                                        have hnc144 := NB357_382.out
                                        have hnb145 := NB382_362.out
                                        have hnc145 := NB362_382.out
                                        have hnb146 := NB382_367.out
                                        have hnc146 := NB367_382.out
                                        have hnb147 := NB382_387.out
                                        have hnc147 := NB387_382.out
                                        have hcz148_0 : wr.cell? ⟨gb382, 0, none⟩ = some (.int .i64 t378) := (blk_cell BK382.out 0).trans rfl
                                        have hcz148_1 : wr.cell? ⟨gb382, 1, none⟩ = some (.string t379) := (blk_cell BK382.out 1).trans rfl
                                        have hcz148_2 : wr.cell? ⟨gb382, 2, none⟩ = some (.int .i64 t380) := (blk_cell BK382.out 2).trans rfl
                                        have hfz148_0 := blk_frozen BK382.out 0
                                        have hfz148_1 := blk_frozen BK382.out 1
                                        have hfz148_2 := blk_frozen BK382.out 2
                                        go_wp2_with (first | ((with_reducible refine gate_callee (f := 25) rfl ?_); refine goesL_ (some 143) rfl rfl Try.func25 (by kernel_rfl) rfl #[.agg #[.int .i64 t378, .string t379, .int .i64 t380], .string (rdOf ByteArray.empty t374 x136_4)] rfl (by (try simp only [List.map_toArray, List.map_cons, List.map_nil]); first | done | rfl | (simp only [List.length_drop, List.length_take]; rfl)) ?_; (with_reducible refine (impl_MayHave.calls k4 t378 t379 t380 (rdOf ByteArray.empty t374 x136_4) true true _ A138.out).mono ?_); rintro e w149 ⟨rfl, hb⟩; refine ⟨_, rfl, ?_⟩; have n0_ := Aside0.mk (Kd.R_below (by (with_reducible repeat (first | apply Kd.R_alloc | apply Kd.R_drewN | apply Kd.R_drew)); exact HO_134.out) hb); have n1_ := Aside0.mk (blk_below (g := gb357) (o := .cells #[.int .i64 t353, .string t354, .int .i64 t355] 27 (0, 0)) (by (with_reducible repeat (first | refine blk_drewN ?_ _ | refine blk_drew ?_ | refine blk_alloc ?_ _)); exact BK357.out) hb); have n2_ := Aside0.mk (blk_below (g := gb362) (o := .cells #[.int .i64 t358, .string t359, .int .i64 t360] 27 (0, 0)) (by (with_reducible repeat (first | refine blk_drewN ?_ _ | refine blk_drew ?_ | refine blk_alloc ?_ _)); exact BK362.out) hb); have n3_ := Aside0.mk (blk_below (g := gb367) (o := .cells #[.int .i64 t363, .string t364, .int .i64 t365] 27 (0, 0)) (by (with_reducible repeat (first | refine blk_drewN ?_ _ | refine blk_drew ?_ | refine blk_alloc ?_ _)); exact BK367.out) hb); have n4_ := Aside0.mk (blk_below (g := gb382) (o := .cells #[.int .i64 t378, .string t379, .int .i64 t380] 27 (0, 0)) (by (with_reducible repeat (first | refine blk_drewN ?_ _ | refine blk_drew ?_ | refine blk_alloc ?_ _)); exact BK382.out) hb); have n5_ := Aside0.mk (blk_below (g := gb387) (o := .cells #[.int .i64 t383, .string t384, .int .i64 t385] 27 (0, 0)) (by (with_reducible repeat (first | refine blk_drewN ?_ _ | refine blk_drew ?_ | refine blk_alloc ?_ _)); exact BK387.out) hb); have n6_ := Aside0.mk (below_step (by repeat (first | (with_reducible first | exact HB.out | apply below_alloc | apply pw_below_drewN | apply below_drew1 | refine below_set ?_ GE357.out | refine below_set ?_ GE362.out | refine below_set ?_ GE367.out | refine below_set ?_ GE382.out | refine below_set ?_ GE387.out) | exact HB.out)) hb); clear HO_134; clear BK357; clear BK362; clear BK367; clear BK382; clear BK387; clear HB; have HO_134 := n0_; have BK357 := n1_; have BK362 := n2_; have BK367 := n3_; have BK382 := n4_; have BK387 := n5_; have HB := n6_; clear n0_ n1_ n2_ n3_ n4_ n5_ n6_; (try clear hb); (try clear hb2); (try clear hk); (try clear hi)) | ((with_reducible refine gate_callee (f := 20) rfl ?_); refine goesL_ (some 149) rfl rfl Try.func20 (by kernel_rfl) rfl #[.string (rdOf ByteArray.empty t374 x136_4), .int .i64 t375] rfl (by (try simp only [List.map_toArray, List.map_cons, List.map_nil]); first | done | rfl | (simp only [List.length_drop, List.length_take]; rfl)) ?_; (with_reducible refine (impl_PlacesOf.calls k4 (rdOf ByteArray.empty t374 x136_4) t375 t391 true _ A139.out).mono ?_); rintro e w150 ⟨v393, rfl, ho0, hb⟩; refine ⟨_, rfl, ?_⟩; have n0_ := Aside0.mk (Kd.R_below (by (with_reducible repeat (first | apply Kd.R_alloc | apply Kd.R_drewN | apply Kd.R_drew)); exact HO_134.out) hb); have n1_ := Aside0.mk (Kd.R_lower ho0 (below_size (by repeat (first | (with_reducible first | exact HB.out | apply below_alloc | apply pw_below_drewN | apply below_drew1 | refine below_set ?_ GE357.out | refine below_set ?_ GE362.out | refine below_set ?_ GE367.out | refine below_set ?_ GE382.out | refine below_set ?_ GE387.out) | exact HB.out)))); have n2_ := Aside0.mk (blk_below (g := gb357) (o := .cells #[.int .i64 t353, .string t354, .int .i64 t355] 27 (0, 0)) (by (with_reducible repeat (first | refine blk_drewN ?_ _ | refine blk_drew ?_ | refine blk_alloc ?_ _)); exact BK357.out) hb); have n3_ := Aside0.mk (blk_below (g := gb362) (o := .cells #[.int .i64 t358, .string t359, .int .i64 t360] 27 (0, 0)) (by (with_reducible repeat (first | refine blk_drewN ?_ _ | refine blk_drew ?_ | refine blk_alloc ?_ _)); exact BK362.out) hb); have n4_ := Aside0.mk (blk_below (g := gb367) (o := .cells #[.int .i64 t363, .string t364, .int .i64 t365] 27 (0, 0)) (by (with_reducible repeat (first | refine blk_drewN ?_ _ | refine blk_drew ?_ | refine blk_alloc ?_ _)); exact BK367.out) hb); have n5_ := Aside0.mk (blk_below (g := gb382) (o := .cells #[.int .i64 t378, .string t379, .int .i64 t380] 27 (0, 0)) (by (with_reducible repeat (first | refine blk_drewN ?_ _ | refine blk_drew ?_ | refine blk_alloc ?_ _)); exact BK382.out) hb); have n6_ := Aside0.mk (blk_below (g := gb387) (o := .cells #[.int .i64 t383, .string t384, .int .i64 t385] 27 (0, 0)) (by (with_reducible repeat (first | refine blk_drewN ?_ _ | refine blk_drew ?_ | refine blk_alloc ?_ _)); exact BK387.out) hb); have n7_ := Aside0.mk (below_step (by repeat (first | (with_reducible first | exact HB.out | apply below_alloc | apply pw_below_drewN | apply below_drew1 | refine below_set ?_ GE357.out | refine below_set ?_ GE362.out | refine below_set ?_ GE367.out | refine below_set ?_ GE382.out | refine below_set ?_ GE387.out) | exact HB.out)) hb); clear HO_134; clear BK357; clear BK362; clear BK367; clear BK382; clear BK387; clear HB; have HO_134 := n0_; have HO394 := n1_; have BK357 := n2_; have BK362 := n3_; have BK367 := n4_; have BK382 := n5_; have BK387 := n6_; have HB := n7_; clear n0_ n1_ n2_ n3_ n4_ n5_ n6_ n7_; (try clear hb); (try clear hb2); (try clear hk); (try clear hi); (try clear ho0); obtain ⟨Ao151, co151, eo151⟩ := Kd.R_slice HO394.out; subst eo151))
                                        go_roundg k4
                                        case measure => have := HJ6.out; have := HJ27.out; have := HJ106.out; have := HK4.out; omega
                                        case rel => exact ⟨(wrap64 (x136_4 + 1)), (by first | rfl | (simp; done) | (simp [*]; done)), H', ⟨by have := HJ6.out; have := HJ27.out; have := HJ106.out; have := HK4.out; omega⟩, ⟨by (with_reducible repeat (first | apply Kd.R_alloc | apply Kd.R_drewN | apply Kd.R_drew)); exact HO_134.out⟩, ⟨by (with_reducible repeat (first | refine blk_drewN ?_ _ | refine blk_drew ?_ | refine blk_alloc ?_ _)); exact BK357.out⟩, ⟨by (with_reducible repeat (first | refine blk_drewN ?_ _ | refine blk_drew ?_ | refine blk_alloc ?_ _)); exact BK362.out⟩, ⟨by (with_reducible repeat (first | refine blk_drewN ?_ _ | refine blk_drew ?_ | refine blk_alloc ?_ _)); exact BK367.out⟩, ⟨by (with_reducible repeat (first | refine blk_drewN ?_ _ | refine blk_drew ?_ | refine blk_alloc ?_ _)); exact BK382.out⟩, ⟨by (with_reducible repeat (first | refine blk_drewN ?_ _ | refine blk_drew ?_ | refine blk_alloc ?_ _)); exact BK387.out⟩, ⟨by repeat (first | (with_reducible first | exact HB.out | apply below_alloc | apply pw_below_drewN | apply below_drew1 | refine below_set ?_ GE357.out | refine below_set ?_ GE362.out | refine below_set ?_ GE367.out | refine below_set ?_ GE382.out | refine below_set ?_ GE387.out) | exact HB.out)⟩⟩
                                      · rw [if_neg c143] at H
                                        have c143b0 : ((t391.length : Int) == t375) = false := beq_eq_false_iff_ne.mpr c143
                                        have c143b1 : ((t391.length : Int) != t375) = true := bne_iff_ne.mpr c143
                                        obtain rfl := Option.some.inj H
                                        have p388 : 0 ≤ (x136_4 : Int) := of_decide_eq_true (by first | (with_reducible assumption) | assumption)
                                        have q388 : x136_4 < (t374.length : Int) := of_decide_eq_true (by first | (with_reducible assumption) | assumption)
                                        obtain ⟨ad388, e388, hx388_0⟩ := Kd.at_string (Kd.R_reads' HO_134.out).2.2 x136_4 p388 q388
                                        cases e388
                                        replace p388 := eq_true p388
                                        replace q388 := eq_true q388
                                        have hnb152 := NB382_357.out
                                        have hnc152 := NB357_382.out
                                        have hnb153 := NB382_362.out
                                        have hnc153 := NB362_382.out
                                        have hnb154 := NB382_367.out
                                        have hnc154 := NB367_382.out
                                        have hnb155 := NB382_387.out
                                        have hnc155 := NB387_382.out
                                        have hcz156_0 : wr.cell? ⟨gb382, 0, none⟩ = some (.int .i64 t378) := (blk_cell BK382.out 0).trans rfl
                                        have hcz156_1 : wr.cell? ⟨gb382, 1, none⟩ = some (.string t379) := (blk_cell BK382.out 1).trans rfl
                                        have hcz156_2 : wr.cell? ⟨gb382, 2, none⟩ = some (.int .i64 t380) := (blk_cell BK382.out 2).trans rfl
                                        have hfz156_0 := blk_frozen BK382.out 0
                                        have hfz156_1 := blk_frozen BK382.out 1
                                        have hfz156_2 := blk_frozen BK382.out 2
                                        go_wp2_with (first | ((with_reducible refine gate_callee (f := 25) rfl ?_); refine goesL_ (some 143) rfl rfl Try.func25 (by kernel_rfl) rfl #[.agg #[.int .i64 t378, .string t379, .int .i64 t380], .string (rdOf ByteArray.empty t374 x136_4)] rfl (by (try simp only [List.map_toArray, List.map_cons, List.map_nil]); first | done | rfl | (simp only [List.length_drop, List.length_take]; rfl)) ?_; (with_reducible refine (impl_MayHave.calls k4 t378 t379 t380 (rdOf ByteArray.empty t374 x136_4) true true _ A138.out).mono ?_); rintro e w157 ⟨rfl, hb⟩; refine ⟨_, rfl, ?_⟩; have n0_ := Aside0.mk (Kd.R_below (by (with_reducible repeat (first | apply Kd.R_alloc | apply Kd.R_drewN | apply Kd.R_drew)); exact HO_134.out) hb); have n1_ := Aside0.mk (blk_below (g := gb357) (o := .cells #[.int .i64 t353, .string t354, .int .i64 t355] 27 (0, 0)) (by (with_reducible repeat (first | refine blk_drewN ?_ _ | refine blk_drew ?_ | refine blk_alloc ?_ _)); exact BK357.out) hb); have n2_ := Aside0.mk (blk_below (g := gb362) (o := .cells #[.int .i64 t358, .string t359, .int .i64 t360] 27 (0, 0)) (by (with_reducible repeat (first | refine blk_drewN ?_ _ | refine blk_drew ?_ | refine blk_alloc ?_ _)); exact BK362.out) hb); have n3_ := Aside0.mk (blk_below (g := gb367) (o := .cells #[.int .i64 t363, .string t364, .int .i64 t365] 27 (0, 0)) (by (with_reducible repeat (first | refine blk_drewN ?_ _ | refine blk_drew ?_ | refine blk_alloc ?_ _)); exact BK367.out) hb); have n4_ := Aside0.mk (blk_below (g := gb382) (o := .cells #[.int .i64 t378, .string t379, .int .i64 t380] 27 (0, 0)) (by (with_reducible repeat (first | refine blk_drewN ?_ _ | refine blk_drew ?_ | refine blk_alloc ?_ _)); exact BK382.out) hb); have n5_ := Aside0.mk (blk_below (g := gb387) (o := .cells #[.int .i64 t383, .string t384, .int .i64 t385] 27 (0, 0)) (by (with_reducible repeat (first | refine blk_drewN ?_ _ | refine blk_drew ?_ | refine blk_alloc ?_ _)); exact BK387.out) hb); have n6_ := Aside0.mk (below_step (by repeat (first | (with_reducible first | exact HB.out | apply below_alloc | apply pw_below_drewN | apply below_drew1 | refine below_set ?_ GE357.out | refine below_set ?_ GE362.out | refine below_set ?_ GE367.out | refine below_set ?_ GE382.out | refine below_set ?_ GE387.out) | exact HB.out)) hb); clear HO_134; clear BK357; clear BK362; clear BK367; clear BK382; clear BK387; clear HB; have HO_134 := n0_; have BK357 := n1_; have BK362 := n2_; have BK367 := n3_; have BK382 := n4_; have BK387 := n5_; have HB := n6_; clear n0_ n1_ n2_ n3_ n4_ n5_ n6_; (try clear hb); (try clear hb2); (try clear hk); (try clear hi)) | ((with_reducible refine gate_callee (f := 20) rfl ?_); refine goesL_ (some 149) rfl rfl Try.func20 (by kernel_rfl) rfl #[.string (rdOf ByteArray.empty t374 x136_4), .int .i64 t375] rfl (by (try simp only [List.map_toArray, List.map_cons, List.map_nil]); first | done | rfl | (simp only [List.length_drop, List.length_take]; rfl)) ?_; (with_reducible refine (impl_PlacesOf.calls k4 (rdOf ByteArray.empty t374 x136_4) t375 t391 true _ A139.out).mono ?_); rintro e w158 ⟨v393, rfl, ho0, hb⟩; refine ⟨_, rfl, ?_⟩; have n0_ := Aside0.mk (Kd.R_below (by (with_reducible repeat (first | apply Kd.R_alloc | apply Kd.R_drewN | apply Kd.R_drew)); exact HO_134.out) hb); have n1_ := Aside0.mk (Kd.R_lower ho0 (below_size (by repeat (first | (with_reducible first | exact HB.out | apply below_alloc | apply pw_below_drewN | apply below_drew1 | refine below_set ?_ GE357.out | refine below_set ?_ GE362.out | refine below_set ?_ GE367.out | refine below_set ?_ GE382.out | refine below_set ?_ GE387.out) | exact HB.out)))); have n2_ := Aside0.mk (blk_below (g := gb357) (o := .cells #[.int .i64 t353, .string t354, .int .i64 t355] 27 (0, 0)) (by (with_reducible repeat (first | refine blk_drewN ?_ _ | refine blk_drew ?_ | refine blk_alloc ?_ _)); exact BK357.out) hb); have n3_ := Aside0.mk (blk_below (g := gb362) (o := .cells #[.int .i64 t358, .string t359, .int .i64 t360] 27 (0, 0)) (by (with_reducible repeat (first | refine blk_drewN ?_ _ | refine blk_drew ?_ | refine blk_alloc ?_ _)); exact BK362.out) hb); have n4_ := Aside0.mk (blk_below (g := gb367) (o := .cells #[.int .i64 t363, .string t364, .int .i64 t365] 27 (0, 0)) (by (with_reducible repeat (first | refine blk_drewN ?_ _ | refine blk_drew ?_ | refine blk_alloc ?_ _)); exact BK367.out) hb); have n5_ := Aside0.mk (blk_below (g := gb382) (o := .cells #[.int .i64 t378, .string t379, .int .i64 t380] 27 (0, 0)) (by (with_reducible repeat (first | refine blk_drewN ?_ _ | refine blk_drew ?_ | refine blk_alloc ?_ _)); exact BK382.out) hb); have n6_ := Aside0.mk (blk_below (g := gb387) (o := .cells #[.int .i64 t383, .string t384, .int .i64 t385] 27 (0, 0)) (by (with_reducible repeat (first | refine blk_drewN ?_ _ | refine blk_drew ?_ | refine blk_alloc ?_ _)); exact BK387.out) hb); have n7_ := Aside0.mk (below_step (by repeat (first | (with_reducible first | exact HB.out | apply below_alloc | apply pw_below_drewN | apply below_drew1 | refine below_set ?_ GE357.out | refine below_set ?_ GE362.out | refine below_set ?_ GE367.out | refine below_set ?_ GE382.out | refine below_set ?_ GE387.out) | exact HB.out)) hb); clear HO_134; clear BK357; clear BK362; clear BK367; clear BK382; clear BK387; clear HB; have HO_134 := n0_; have HO394 := n1_; have BK357 := n2_; have BK362 := n3_; have BK367 := n4_; have BK382 := n5_; have BK387 := n6_; have HB := n7_; clear n0_ n1_ n2_ n3_ n4_ n5_ n6_ n7_; (try clear hb); (try clear hb2); (try clear hk); (try clear hi); (try clear ho0); obtain ⟨Ao159, co159, eo159⟩ := Kd.R_slice HO394.out; subst eo159))
                                        go_ret
                                        exact ⟨by first | rfl | (simp [errW_none, errW_some] <;> rfl) | (simp [*, errW_none, errW_some] <;> rfl), by repeat (first | (with_reducible first | exact HB.out | apply below_alloc | apply pw_below_drewN | apply below_drew1 | refine below_set ?_ GE357.out | refine below_set ?_ GE362.out | refine below_set ?_ GE367.out | refine below_set ?_ GE382.out | refine below_set ?_ GE387.out) | exact HB.out)⟩
                                    · replace c142 := Bool.eq_false_iff.mpr c142
                                      subst c142
                                      have H1 : (some false) = some r := by rw [if_neg (show ¬ (false = true) by decide)] at H; exact H
                                      clear H
                                      have H := H1
                                      clear H1
                                      obtain rfl := Option.some.inj H
                                      have p388 : 0 ≤ (x136_4 : Int) := of_decide_eq_true (by first | (with_reducible assumption) | assumption)
                                      have q388 : x136_4 < (t374.length : Int) := of_decide_eq_true (by first | (with_reducible assumption) | assumption)
                                      obtain ⟨ad388, e388, hx388_0⟩ := Kd.at_string (Kd.R_reads' HO_134.out).2.2 x136_4 p388 q388
                                      cases e388
                                      replace p388 := eq_true p388
                                      replace q388 := eq_true q388
                                      have hnb160 := NB382_357.out
                                      have hnc160 := NB357_382.out
                                      have hnb161 := NB382_362.out
                                      have hnc161 := NB362_382.out
                                      have hnb162 := NB382_367.out
                                      have hnc162 := NB367_382.out
                                      have hnb163 := NB382_387.out
                                      have hnc163 := NB387_382.out
                                      have hcz164_0 : wr.cell? ⟨gb382, 0, none⟩ = some (.int .i64 t378) := (blk_cell BK382.out 0).trans rfl
                                      have hcz164_1 : wr.cell? ⟨gb382, 1, none⟩ = some (.string t379) := (blk_cell BK382.out 1).trans rfl
                                      have hcz164_2 : wr.cell? ⟨gb382, 2, none⟩ = some (.int .i64 t380) := (blk_cell BK382.out 2).trans rfl
                                      have hfz164_0 := blk_frozen BK382.out 0
                                      have hfz164_1 := blk_frozen BK382.out 1
                                      have hfz164_2 := blk_frozen BK382.out 2
                                      go_wp2_with (first | ((with_reducible refine gate_callee (f := 25) rfl ?_); refine goesL_ (some 143) rfl rfl Try.func25 (by kernel_rfl) rfl #[.agg #[.int .i64 t378, .string t379, .int .i64 t380], .string (rdOf ByteArray.empty t374 x136_4)] rfl (by (try simp only [List.map_toArray, List.map_cons, List.map_nil]); first | done | rfl | (simp only [List.length_drop, List.length_take]; rfl)) ?_; (with_reducible refine (impl_MayHave.calls k4 t378 t379 t380 (rdOf ByteArray.empty t374 x136_4) false true _ A138.out).mono ?_); rintro e w165 ⟨rfl, hb⟩; refine ⟨_, rfl, ?_⟩; have n0_ := Aside0.mk (Kd.R_below (by (with_reducible repeat (first | apply Kd.R_alloc | apply Kd.R_drewN | apply Kd.R_drew)); exact HO_134.out) hb); have n1_ := Aside0.mk (blk_below (g := gb357) (o := .cells #[.int .i64 t353, .string t354, .int .i64 t355] 27 (0, 0)) (by (with_reducible repeat (first | refine blk_drewN ?_ _ | refine blk_drew ?_ | refine blk_alloc ?_ _)); exact BK357.out) hb); have n2_ := Aside0.mk (blk_below (g := gb362) (o := .cells #[.int .i64 t358, .string t359, .int .i64 t360] 27 (0, 0)) (by (with_reducible repeat (first | refine blk_drewN ?_ _ | refine blk_drew ?_ | refine blk_alloc ?_ _)); exact BK362.out) hb); have n3_ := Aside0.mk (blk_below (g := gb367) (o := .cells #[.int .i64 t363, .string t364, .int .i64 t365] 27 (0, 0)) (by (with_reducible repeat (first | refine blk_drewN ?_ _ | refine blk_drew ?_ | refine blk_alloc ?_ _)); exact BK367.out) hb); have n4_ := Aside0.mk (blk_below (g := gb382) (o := .cells #[.int .i64 t378, .string t379, .int .i64 t380] 27 (0, 0)) (by (with_reducible repeat (first | refine blk_drewN ?_ _ | refine blk_drew ?_ | refine blk_alloc ?_ _)); exact BK382.out) hb); have n5_ := Aside0.mk (blk_below (g := gb387) (o := .cells #[.int .i64 t383, .string t384, .int .i64 t385] 27 (0, 0)) (by (with_reducible repeat (first | refine blk_drewN ?_ _ | refine blk_drew ?_ | refine blk_alloc ?_ _)); exact BK387.out) hb); have n6_ := Aside0.mk (below_step (by repeat (first | (with_reducible first | exact HB.out | apply below_alloc | apply pw_below_drewN | apply below_drew1 | refine below_set ?_ GE357.out | refine below_set ?_ GE362.out | refine below_set ?_ GE367.out | refine below_set ?_ GE382.out | refine below_set ?_ GE387.out) | exact HB.out)) hb); clear HO_134; clear BK357; clear BK362; clear BK367; clear BK382; clear BK387; clear HB; have HO_134 := n0_; have BK357 := n1_; have BK362 := n2_; have BK367 := n3_; have BK382 := n4_; have BK387 := n5_; have HB := n6_; clear n0_ n1_ n2_ n3_ n4_ n5_ n6_; (try clear hb); (try clear hb2); (try clear hk); (try clear hi)) | ((with_reducible refine gate_callee (f := 20) rfl ?_); refine goesL_ (some 149) rfl rfl Try.func20 (by kernel_rfl) rfl #[.string (rdOf ByteArray.empty t374 x136_4), .int .i64 t375] rfl (by (try simp only [List.map_toArray, List.map_cons, List.map_nil]); first | done | rfl | (simp only [List.length_drop, List.length_take]; rfl)) ?_; (with_reducible refine (impl_PlacesOf.calls k4 (rdOf ByteArray.empty t374 x136_4) t375 t391 true _ A139.out).mono ?_); rintro e w166 ⟨v393, rfl, ho0, hb⟩; refine ⟨_, rfl, ?_⟩; have n0_ := Aside0.mk (Kd.R_below (by (with_reducible repeat (first | apply Kd.R_alloc | apply Kd.R_drewN | apply Kd.R_drew)); exact HO_134.out) hb); have n1_ := Aside0.mk (Kd.R_lower ho0 (below_size (by repeat (first | (with_reducible first | exact HB.out | apply below_alloc | apply pw_below_drewN | apply below_drew1 | refine below_set ?_ GE357.out | refine below_set ?_ GE362.out | refine below_set ?_ GE367.out | refine below_set ?_ GE382.out | refine below_set ?_ GE387.out) | exact HB.out)))); have n2_ := Aside0.mk (blk_below (g := gb357) (o := .cells #[.int .i64 t353, .string t354, .int .i64 t355] 27 (0, 0)) (by (with_reducible repeat (first | refine blk_drewN ?_ _ | refine blk_drew ?_ | refine blk_alloc ?_ _)); exact BK357.out) hb); have n3_ := Aside0.mk (blk_below (g := gb362) (o := .cells #[.int .i64 t358, .string t359, .int .i64 t360] 27 (0, 0)) (by (with_reducible repeat (first | refine blk_drewN ?_ _ | refine blk_drew ?_ | refine blk_alloc ?_ _)); exact BK362.out) hb); have n4_ := Aside0.mk (blk_below (g := gb367) (o := .cells #[.int .i64 t363, .string t364, .int .i64 t365] 27 (0, 0)) (by (with_reducible repeat (first | refine blk_drewN ?_ _ | refine blk_drew ?_ | refine blk_alloc ?_ _)); exact BK367.out) hb); have n5_ := Aside0.mk (blk_below (g := gb382) (o := .cells #[.int .i64 t378, .string t379, .int .i64 t380] 27 (0, 0)) (by (with_reducible repeat (first | refine blk_drewN ?_ _ | refine blk_drew ?_ | refine blk_alloc ?_ _)); exact BK382.out) hb); have n6_ := Aside0.mk (blk_below (g := gb387) (o := .cells #[.int .i64 t383, .string t384, .int .i64 t385] 27 (0, 0)) (by (with_reducible repeat (first | refine blk_drewN ?_ _ | refine blk_drew ?_ | refine blk_alloc ?_ _)); exact BK387.out) hb); have n7_ := Aside0.mk (below_step (by repeat (first | (with_reducible first | exact HB.out | apply below_alloc | apply pw_below_drewN | apply below_drew1 | refine below_set ?_ GE357.out | refine below_set ?_ GE362.out | refine below_set ?_ GE367.out | refine below_set ?_ GE382.out | refine below_set ?_ GE387.out) | exact HB.out)) hb); clear HO_134; clear BK357; clear BK362; clear BK367; clear BK382; clear BK387; clear HB; have HO_134 := n0_; have HO394 := n1_; have BK357 := n2_; have BK362 := n3_; have BK367 := n4_; have BK382 := n5_; have BK387 := n6_; have HB := n7_; clear n0_ n1_ n2_ n3_ n4_ n5_ n6_ n7_; (try clear hb); (try clear hb2); (try clear hk); (try clear hi); (try clear ho0)))
                                      go_ret
                                      exact ⟨by first | rfl | (simp [errW_none, errW_some] <;> rfl) | (simp [*, errW_none, errW_some] <;> rfl), by repeat (first | (with_reducible first | exact HB.out | apply below_alloc | apply pw_below_drewN | apply below_drew1 | refine below_set ?_ GE357.out | refine below_set ?_ GE362.out | refine below_set ?_ GE367.out | refine below_set ?_ GE382.out | refine below_set ?_ GE387.out) | exact HB.out)⟩
                                  · replace c141 := Bool.eq_false_iff.mpr c141
                                    subst c141
                                    have H1 : (some false) = some r := by rw [if_neg (show ¬ (false = true) by decide)] at H; exact H
                                    clear H
                                    have H := H1
                                    clear H1
                                    obtain rfl := Option.some.inj H
                                    have p388 : 0 ≤ (x136_4 : Int) := of_decide_eq_true (by first | (with_reducible assumption) | assumption)
                                    have q388 : x136_4 < (t374.length : Int) := of_decide_eq_true (by first | (with_reducible assumption) | assumption)
                                    obtain ⟨ad388, e388, hx388_0⟩ := Kd.at_string (Kd.R_reads' HO_134.out).2.2 x136_4 p388 q388
                                    cases e388
                                    replace p388 := eq_true p388
                                    replace q388 := eq_true q388
                                    have hnb167 := NB382_357.out
                                    have hnc167 := NB357_382.out
                                    have hnb168 := NB382_362.out
                                    have hnc168 := NB362_382.out
                                    have hnb169 := NB382_367.out
                                    have hnc169 := NB367_382.out
                                    have hnb170 := NB382_387.out
                                    have hnc170 := NB387_382.out
                                    have hcz171_0 : wr.cell? ⟨gb382, 0, none⟩ = some (.int .i64 t378) := (blk_cell BK382.out 0).trans rfl
                                    have hcz171_1 : wr.cell? ⟨gb382, 1, none⟩ = some (.string t379) := (blk_cell BK382.out 1).trans rfl
                                    have hcz171_2 : wr.cell? ⟨gb382, 2, none⟩ = some (.int .i64 t380) := (blk_cell BK382.out 2).trans rfl
                                    have hfz171_0 := blk_frozen BK382.out 0
                                    have hfz171_1 := blk_frozen BK382.out 1
                                    have hfz171_2 := blk_frozen BK382.out 2
                                    go_wp2_with (first | ((with_reducible refine gate_callee (f := 25) rfl ?_); refine goesL_ (some 143) rfl rfl Try.func25 (by kernel_rfl) rfl #[.agg #[.int .i64 t378, .string t379, .int .i64 t380], .string (rdOf ByteArray.empty t374 x136_4)] rfl (by (try simp only [List.map_toArray, List.map_cons, List.map_nil]); first | done | rfl | (simp only [List.length_drop, List.length_take]; rfl)) ?_; (with_reducible refine (impl_MayHave.calls k4 t378 t379 t380 (rdOf ByteArray.empty t374 x136_4) t389 true _ A138.out).mono ?_); rintro e w172 ⟨rfl, hb⟩; refine ⟨_, rfl, ?_⟩; have n0_ := Aside0.mk (Kd.R_below (by (with_reducible repeat (first | apply Kd.R_alloc | apply Kd.R_drewN | apply Kd.R_drew)); exact HO_134.out) hb); have n1_ := Aside0.mk (blk_below (g := gb357) (o := .cells #[.int .i64 t353, .string t354, .int .i64 t355] 27 (0, 0)) (by (with_reducible repeat (first | refine blk_drewN ?_ _ | refine blk_drew ?_ | refine blk_alloc ?_ _)); exact BK357.out) hb); have n2_ := Aside0.mk (blk_below (g := gb362) (o := .cells #[.int .i64 t358, .string t359, .int .i64 t360] 27 (0, 0)) (by (with_reducible repeat (first | refine blk_drewN ?_ _ | refine blk_drew ?_ | refine blk_alloc ?_ _)); exact BK362.out) hb); have n3_ := Aside0.mk (blk_below (g := gb367) (o := .cells #[.int .i64 t363, .string t364, .int .i64 t365] 27 (0, 0)) (by (with_reducible repeat (first | refine blk_drewN ?_ _ | refine blk_drew ?_ | refine blk_alloc ?_ _)); exact BK367.out) hb); have n4_ := Aside0.mk (blk_below (g := gb382) (o := .cells #[.int .i64 t378, .string t379, .int .i64 t380] 27 (0, 0)) (by (with_reducible repeat (first | refine blk_drewN ?_ _ | refine blk_drew ?_ | refine blk_alloc ?_ _)); exact BK382.out) hb); have n5_ := Aside0.mk (blk_below (g := gb387) (o := .cells #[.int .i64 t383, .string t384, .int .i64 t385] 27 (0, 0)) (by (with_reducible repeat (first | refine blk_drewN ?_ _ | refine blk_drew ?_ | refine blk_alloc ?_ _)); exact BK387.out) hb); have n6_ := Aside0.mk (below_step (by repeat (first | (with_reducible first | exact HB.out | apply below_alloc | apply pw_below_drewN | apply below_drew1 | refine below_set ?_ GE357.out | refine below_set ?_ GE362.out | refine below_set ?_ GE367.out | refine below_set ?_ GE382.out | refine below_set ?_ GE387.out) | exact HB.out)) hb); clear HO_134; clear BK357; clear BK362; clear BK367; clear BK382; clear BK387; clear HB; have HO_134 := n0_; have BK357 := n1_; have BK362 := n2_; have BK367 := n3_; have BK382 := n4_; have BK387 := n5_; have HB := n6_; clear n0_ n1_ n2_ n3_ n4_ n5_ n6_; (try clear hb); (try clear hb2); (try clear hk); (try clear hi)) | ((with_reducible refine gate_callee (f := 20) rfl ?_); refine goesL_ (some 149) rfl rfl Try.func20 (by kernel_rfl) rfl #[.string (rdOf ByteArray.empty t374 x136_4), .int .i64 t375] rfl (by (try simp only [List.map_toArray, List.map_cons, List.map_nil]); first | done | rfl | (simp only [List.length_drop, List.length_take]; rfl)) ?_; (with_reducible refine (impl_PlacesOf.calls k4 (rdOf ByteArray.empty t374 x136_4) t375 t391 false _ A139.out).mono ?_); rintro e w173 ⟨v393, rfl, ho0, hb⟩; refine ⟨_, rfl, ?_⟩; have n0_ := Aside0.mk (Kd.R_below (by (with_reducible repeat (first | apply Kd.R_alloc | apply Kd.R_drewN | apply Kd.R_drew)); exact HO_134.out) hb); have n1_ := Aside0.mk (Kd.R_lower ho0 (below_size (by repeat (first | (with_reducible first | exact HB.out | apply below_alloc | apply pw_below_drewN | apply below_drew1 | refine below_set ?_ GE357.out | refine below_set ?_ GE362.out | refine below_set ?_ GE367.out | refine below_set ?_ GE382.out | refine below_set ?_ GE387.out) | exact HB.out)))); have n2_ := Aside0.mk (blk_below (g := gb357) (o := .cells #[.int .i64 t353, .string t354, .int .i64 t355] 27 (0, 0)) (by (with_reducible repeat (first | refine blk_drewN ?_ _ | refine blk_drew ?_ | refine blk_alloc ?_ _)); exact BK357.out) hb); have n3_ := Aside0.mk (blk_below (g := gb362) (o := .cells #[.int .i64 t358, .string t359, .int .i64 t360] 27 (0, 0)) (by (with_reducible repeat (first | refine blk_drewN ?_ _ | refine blk_drew ?_ | refine blk_alloc ?_ _)); exact BK362.out) hb); have n4_ := Aside0.mk (blk_below (g := gb367) (o := .cells #[.int .i64 t363, .string t364, .int .i64 t365] 27 (0, 0)) (by (with_reducible repeat (first | refine blk_drewN ?_ _ | refine blk_drew ?_ | refine blk_alloc ?_ _)); exact BK367.out) hb); have n5_ := Aside0.mk (blk_below (g := gb382) (o := .cells #[.int .i64 t378, .string t379, .int .i64 t380] 27 (0, 0)) (by (with_reducible repeat (first | refine blk_drewN ?_ _ | refine blk_drew ?_ | refine blk_alloc ?_ _)); exact BK382.out) hb); have n6_ := Aside0.mk (blk_below (g := gb387) (o := .cells #[.int .i64 t383, .string t384, .int .i64 t385] 27 (0, 0)) (by (with_reducible repeat (first | refine blk_drewN ?_ _ | refine blk_drew ?_ | refine blk_alloc ?_ _)); exact BK387.out) hb); have n7_ := Aside0.mk (below_step (by repeat (first | (with_reducible first | exact HB.out | apply below_alloc | apply pw_below_drewN | apply below_drew1 | refine below_set ?_ GE357.out | refine below_set ?_ GE362.out | refine below_set ?_ GE367.out | refine below_set ?_ GE382.out | refine below_set ?_ GE387.out) | exact HB.out)) hb); clear HO_134; clear BK357; clear BK362; clear BK367; clear BK382; clear BK387; clear HB; have HO_134 := n0_; have HO394 := n1_; have BK357 := n2_; have BK362 := n3_; have BK367 := n4_; have BK382 := n5_; have BK387 := n6_; have HB := n7_; clear n0_ n1_ n2_ n3_ n4_ n5_ n6_ n7_; (try clear hb); (try clear hb2); (try clear hk); (try clear hi); (try clear ho0)))
                                    go_ret
                                    exact ⟨by first | rfl | (simp [errW_none, errW_some] <;> rfl) | (simp [*, errW_none, errW_some] <;> rfl), by repeat (first | (with_reducible first | exact HB.out | apply below_alloc | apply pw_below_drewN | apply below_drew1 | refine below_set ?_ GE357.out | refine below_set ?_ GE362.out | refine below_set ?_ GE367.out | refine below_set ?_ GE382.out | refine below_set ?_ GE387.out) | exact HB.out)⟩
                                · replace c140 := Bool.eq_false_iff.mpr c140
                                  subst c140
                                  have H1 : (some false) = some r := by rw [if_neg (show ¬ (false = true) by decide)] at H; exact H
                                  clear H
                                  have H := H1
                                  clear H1
                                  obtain rfl := Option.some.inj H
                                  have p388 : 0 ≤ (x136_4 : Int) := of_decide_eq_true (by first | (with_reducible assumption) | assumption)
                                  have q388 : x136_4 < (t374.length : Int) := of_decide_eq_true (by first | (with_reducible assumption) | assumption)
                                  obtain ⟨ad388, e388, hx388_0⟩ := Kd.at_string (Kd.R_reads' HO_134.out).2.2 x136_4 p388 q388
                                  cases e388
                                  replace p388 := eq_true p388
                                  replace q388 := eq_true q388
                                  have hnb174 := NB382_357.out
                                  have hnc174 := NB357_382.out
                                  have hnb175 := NB382_362.out
                                  have hnc175 := NB362_382.out
                                  have hnb176 := NB382_367.out
                                  have hnc176 := NB367_382.out
                                  have hnb177 := NB382_387.out
                                  have hnc177 := NB387_382.out
                                  have hcz178_0 : wr.cell? ⟨gb382, 0, none⟩ = some (.int .i64 t378) := (blk_cell BK382.out 0).trans rfl
                                  have hcz178_1 : wr.cell? ⟨gb382, 1, none⟩ = some (.string t379) := (blk_cell BK382.out 1).trans rfl
                                  have hcz178_2 : wr.cell? ⟨gb382, 2, none⟩ = some (.int .i64 t380) := (blk_cell BK382.out 2).trans rfl
                                  have hfz178_0 := blk_frozen BK382.out 0
                                  have hfz178_1 := blk_frozen BK382.out 1
                                  have hfz178_2 := blk_frozen BK382.out 2
                                  go_wp2_with (first | ((with_reducible refine gate_callee (f := 25) rfl ?_); refine goesL_ (some 143) rfl rfl Try.func25 (by kernel_rfl) rfl #[.agg #[.int .i64 t378, .string t379, .int .i64 t380], .string (rdOf ByteArray.empty t374 x136_4)] rfl (by (try simp only [List.map_toArray, List.map_cons, List.map_nil]); first | done | rfl | (simp only [List.length_drop, List.length_take]; rfl)) ?_; (with_reducible refine (impl_MayHave.calls k4 t378 t379 t380 (rdOf ByteArray.empty t374 x136_4) t389 false _ A138.out).mono ?_); rintro e w179 ⟨rfl, hb⟩; refine ⟨_, rfl, ?_⟩; have n0_ := Aside0.mk (Kd.R_below (by (with_reducible repeat (first | apply Kd.R_alloc | apply Kd.R_drewN | apply Kd.R_drew)); exact HO_134.out) hb); have n1_ := Aside0.mk (blk_below (g := gb357) (o := .cells #[.int .i64 t353, .string t354, .int .i64 t355] 27 (0, 0)) (by (with_reducible repeat (first | refine blk_drewN ?_ _ | refine blk_drew ?_ | refine blk_alloc ?_ _)); exact BK357.out) hb); have n2_ := Aside0.mk (blk_below (g := gb362) (o := .cells #[.int .i64 t358, .string t359, .int .i64 t360] 27 (0, 0)) (by (with_reducible repeat (first | refine blk_drewN ?_ _ | refine blk_drew ?_ | refine blk_alloc ?_ _)); exact BK362.out) hb); have n3_ := Aside0.mk (blk_below (g := gb367) (o := .cells #[.int .i64 t363, .string t364, .int .i64 t365] 27 (0, 0)) (by (with_reducible repeat (first | refine blk_drewN ?_ _ | refine blk_drew ?_ | refine blk_alloc ?_ _)); exact BK367.out) hb); have n4_ := Aside0.mk (blk_below (g := gb382) (o := .cells #[.int .i64 t378, .string t379, .int .i64 t380] 27 (0, 0)) (by (with_reducible repeat (first | refine blk_drewN ?_ _ | refine blk_drew ?_ | refine blk_alloc ?_ _)); exact BK382.out) hb); have n5_ := Aside0.mk (blk_below (g := gb387) (o := .cells #[.int .i64 t383, .string t384, .int .i64 t385] 27 (0, 0)) (by (with_reducible repeat (first | refine blk_drewN ?_ _ | refine blk_drew ?_ | refine blk_alloc ?_ _)); exact BK387.out) hb); have n6_ := Aside0.mk (below_step (by repeat (first | (with_reducible first | exact HB.out | apply below_alloc | apply pw_below_drewN | apply below_drew1 | refine below_set ?_ GE357.out | refine below_set ?_ GE362.out | refine below_set ?_ GE367.out | refine below_set ?_ GE382.out | refine below_set ?_ GE387.out) | exact HB.out)) hb); clear HO_134; clear BK357; clear BK362; clear BK367; clear BK382; clear BK387; clear HB; have HO_134 := n0_; have BK357 := n1_; have BK362 := n2_; have BK367 := n3_; have BK382 := n4_; have BK387 := n5_; have HB := n6_; clear n0_ n1_ n2_ n3_ n4_ n5_ n6_; (try clear hb); (try clear hb2); (try clear hk); (try clear hi)) | ((with_reducible refine gate_callee (f := 20) rfl ?_); refine goesL_ (some 149) rfl rfl Try.func20 (by kernel_rfl) rfl #[.string (rdOf ByteArray.empty t374 x136_4), .int .i64 t375] rfl (by (try simp only [List.map_toArray, List.map_cons, List.map_nil]); first | done | rfl | (simp only [List.length_drop, List.length_take]; rfl)) ?_; (with_reducible refine (impl_PlacesOf.calls k4 (rdOf ByteArray.empty t374 x136_4) t375 t391 t392 _ A139.out).mono ?_); rintro e w180 ⟨v393, rfl, ho0, hb⟩; refine ⟨_, rfl, ?_⟩; have n0_ := Aside0.mk (Kd.R_below (by (with_reducible repeat (first | apply Kd.R_alloc | apply Kd.R_drewN | apply Kd.R_drew)); exact HO_134.out) hb); have n1_ := Aside0.mk (Kd.R_lower ho0 (below_size (by repeat (first | (with_reducible first | exact HB.out | apply below_alloc | apply pw_below_drewN | apply below_drew1 | refine below_set ?_ GE357.out | refine below_set ?_ GE362.out | refine below_set ?_ GE367.out | refine below_set ?_ GE382.out | refine below_set ?_ GE387.out) | exact HB.out)))); have n2_ := Aside0.mk (blk_below (g := gb357) (o := .cells #[.int .i64 t353, .string t354, .int .i64 t355] 27 (0, 0)) (by (with_reducible repeat (first | refine blk_drewN ?_ _ | refine blk_drew ?_ | refine blk_alloc ?_ _)); exact BK357.out) hb); have n3_ := Aside0.mk (blk_below (g := gb362) (o := .cells #[.int .i64 t358, .string t359, .int .i64 t360] 27 (0, 0)) (by (with_reducible repeat (first | refine blk_drewN ?_ _ | refine blk_drew ?_ | refine blk_alloc ?_ _)); exact BK362.out) hb); have n4_ := Aside0.mk (blk_below (g := gb367) (o := .cells #[.int .i64 t363, .string t364, .int .i64 t365] 27 (0, 0)) (by (with_reducible repeat (first | refine blk_drewN ?_ _ | refine blk_drew ?_ | refine blk_alloc ?_ _)); exact BK367.out) hb); have n5_ := Aside0.mk (blk_below (g := gb382) (o := .cells #[.int .i64 t378, .string t379, .int .i64 t380] 27 (0, 0)) (by (with_reducible repeat (first | refine blk_drewN ?_ _ | refine blk_drew ?_ | refine blk_alloc ?_ _)); exact BK382.out) hb); have n6_ := Aside0.mk (blk_below (g := gb387) (o := .cells #[.int .i64 t383, .string t384, .int .i64 t385] 27 (0, 0)) (by (with_reducible repeat (first | refine blk_drewN ?_ _ | refine blk_drew ?_ | refine blk_alloc ?_ _)); exact BK387.out) hb); have n7_ := Aside0.mk (below_step (by repeat (first | (with_reducible first | exact HB.out | apply below_alloc | apply pw_below_drewN | apply below_drew1 | refine below_set ?_ GE357.out | refine below_set ?_ GE362.out | refine below_set ?_ GE367.out | refine below_set ?_ GE382.out | refine below_set ?_ GE387.out) | exact HB.out)) hb); clear HO_134; clear BK357; clear BK362; clear BK367; clear BK382; clear BK387; clear HB; have HO_134 := n0_; have HO394 := n1_; have BK357 := n2_; have BK362 := n3_; have BK367 := n4_; have BK382 := n5_; have BK387 := n6_; have HB := n7_; clear n0_ n1_ n2_ n3_ n4_ n5_ n6_ n7_; (try clear hb); (try clear hb2); (try clear hk); (try clear hi); (try clear ho0)))
                                  go_ret
                                  exact ⟨by first | rfl | (simp [errW_none, errW_some] <;> rfl) | (simp [*, errW_none, errW_some] <;> rfl), by repeat (first | (with_reducible first | exact HB.out | apply below_alloc | apply pw_below_drewN | apply below_drew1 | refine below_set ?_ GE357.out | refine below_set ?_ GE362.out | refine below_set ?_ GE367.out | refine below_set ?_ GE382.out | refine below_set ?_ GE387.out) | exact HB.out)⟩
                              · rw [if_neg c137] at H
                                exact absurd H (by simp)
                            · rw [if_neg c136] at H
                              exact absurd H (by simp)
                          · rw [if_neg c135] at H
                            have c135b0 : decide (x136_4 < (t374.length : Int)) = false := decide_eq_false c135
                            clear c135
                            obtain rfl := Option.some.inj H
                            go_wp2
                            go_ret
                            exact ⟨by first | rfl | (simp [errW_none, errW_some] <;> rfl) | (simp [*, errW_none, errW_some] <;> rfl), by repeat (first | (with_reducible first | exact HB.out | apply below_alloc | apply pw_below_drewN | apply below_drew1 | refine below_set ?_ GE357.out | refine below_set ?_ GE362.out | refine below_set ?_ GE367.out | refine below_set ?_ GE382.out | refine below_set ?_ GE387.out) | exact HB.out)⟩
                    · replace c134 := Bool.eq_false_iff.mpr c134
                      subst c134
                      have H1 : (some (t378 == 0)) = some r := by rw [if_neg (show ¬ (false = true) by decide)] at H; exact H
                      clear H
                      have H := H1
                      clear H1
                      obtain rfl := Option.some.inj H
                      have hnb181 := NB382_357.out
                      have hnc181 := NB357_382.out
                      have hnb182 := NB382_362.out
                      have hnc182 := NB362_382.out
                      have hnb183 := NB382_367.out
                      have hnc183 := NB367_382.out
                      have hnb184 := NB382_387.out
                      have hnc184 := NB387_382.out
                      have hcz185_0 : wc.cell? ⟨gb382, 0, none⟩ = some (.int .i64 t378) := (blk_cell BK382.out 0).trans rfl
                      have hcz185_1 : wc.cell? ⟨gb382, 1, none⟩ = some (.string t379) := (blk_cell BK382.out 1).trans rfl
                      have hcz185_2 : wc.cell? ⟨gb382, 2, none⟩ = some (.int .i64 t380) := (blk_cell BK382.out 2).trans rfl
                      have hfz185_0 := blk_frozen BK382.out 0
                      have hfz185_1 := blk_frozen BK382.out 1
                      have hfz185_2 := blk_frozen BK382.out 2
                      go_wp2
                      go_ret
                      exact ⟨by first | rfl | (simp [errW_none, errW_some] <;> rfl) | (simp [*, errW_none, errW_some] <;> rfl), by repeat (first | (with_reducible first | exact HB.out | apply below_alloc | apply pw_below_drewN | apply below_drew1 | refine below_set ?_ GE357.out | refine below_set ?_ GE362.out | refine below_set ?_ GE367.out | refine below_set ?_ GE382.out | refine below_set ?_ GE387.out) | exact HB.out)⟩

/-- THE ONE PURE STATEMENT of laws_FnBloom: yours. -/
def laws_FnBloom.Pure : Prop := ∀ (l0 : List Int) (l1 : List Int), l0.length ≤ maxLen → l0.length * 1 ≤ 140737488351232 → (∀ x ∈ l0, (Lit.int .u8 x).wf = true) → l1.length ≤ maxLen → l1.length * 1 ≤ 140737488351232 → (∀ x ∈ l1, (Lit.int .u8 x).wf = true) → ∃ k, laws_FnBloom.f k l0 l1 = some true
theorem laws_FnBloom.walk (P : laws_FnBloom.Pure) (a0 : Option Addr) (len0 cap0 : Nat) (z0 : List Int) (a1 : Option Addr) (len1 cap1 : Nat) (z1 : List Int) (w : World) (w0 : (a0 = none ∧ len0 = 0 ∧ cap0 = 0 ∧ z0 = []) ∨ ∃ x, a0 = some x ∧ len0 ≤ cap0 ∧ cap0 ≤ maxLen ∧ z0.length = cap0 ∧ (∀ i, i < z0.length → w.cell? (x.add i) = some (.int .u8 (z0.getD i 0))) ∧ ∀ n ∈ z0, (Lit.int .u8 n).wf = true) (y0 : len0 * 1 ≤ 140737488351232) (w1 : (a1 = none ∧ len1 = 0 ∧ cap1 = 0 ∧ z1 = []) ∨ ∃ x, a1 = some x ∧ len1 ≤ cap1 ∧ cap1 ≤ maxLen ∧ z1.length = cap1 ∧ (∀ i, i < z1.length → w.cell? (x.add i) = some (.int .u8 (z1.getD i 0))) ∧ ∀ n ∈ z1, (Lit.int .u8 n).wf = true) (y1 : len1 * 1 ≤ 140737488351232) :
    Calls Try.prog 11 #[.slice a0 len0 cap0, .slice a1 len1 cap1] w fun e w' => e = .returned (.bool true) ∧ Below w.heap.size w w' := by
  obtain ⟨l0, rfl, hr0, hm0, hw0, hc0⟩ := ReadsInt.ofRowC w0
  obtain ⟨l1, rfl, hr1, hm1, hw1, hc1⟩ := ReadsInt.ofRowC w1
  obtain ⟨k, h⟩ := P l0 l1 hm0 y0 hw0 hm1 y1 hw1
  refine (laws_FnBloom.calls k _ _ l0 _ _ l1 true w (Kd.C_of_reads (d := (0 : Int)) (h1 := fun _ => rfl) hr0) hc0 (Kd.C_of_reads (d := (0 : Int)) (h1 := fun _ => rfl) hr1) hc1 h).mono ?_
  rintro e w' ⟨rfl, hd⟩
  exact ⟨rfl, hd⟩

end Go.Proofs.Ytmakajlkphopbaa.MFnBloom
