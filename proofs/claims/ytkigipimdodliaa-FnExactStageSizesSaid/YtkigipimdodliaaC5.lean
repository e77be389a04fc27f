/-
  The program's StageSizes answers what the reference's answers, for every row of paths (FnExactStageSizes); no condition.
-/
import Derived.Test.YtkigipimdodliaaC4
import Derived.Below
import Derived.ChangeArms
import Derived.ChangeOld
import Derived.Deep.Slices
import Derived.Laws.BitsLemmas
import Derived.OpenShut
import Derived.ProofKit
import Derived.ShutString
import Derived.SizedLaws
import Derived.Test.YtkigipimdodliaaRows
import Derived.WalkKit
namespace Go.Proofs.Ytkigipimdodliaa.X
open Go.RowKit Go.Proofs.PrintWords Go.Proofs.PrintLast Go.Proofs.PrintMore
attribute [local go_sem] max2_int min2_int max_two min_two max_three min_three max_four min_four   -- for this text's walks alone
set_option linter.unusedVariables false
set_option linter.unusedSimpArgs false

/-! ### laws_FnExactStageSizes: function 3 -/
def laws_FnExactStageSizes.j0 : Nat → List (S38) → List Int → List Int → Bool → Option (Bool)
  | 0, _, _, _, _ => none
  | k + 1, x0, x4, x6, x42 => if x42 = true then (some false) else ((laws_markIntS.f k x6 1).bind fun bt293 => ((laws_heldIntS.f k bt293.2 1).bind fun t295 => (if t295 < 0 then (some false) else (if t295 = bt293.1 then ((laws_toPathS.f k x0).bind fun t296 => ((impl_StageSizes.f k t296).bind fun t299 => ((laws_eqIntS.f k t299 x4).bind fun t302 => (if t302 = true then ((laws_heldIntS.f k bt293.2 1).bind fun t303 => (if t303 < 0 then (some false) else (if t303 = bt293.1 then (some true) else (some false)))) else (some false))))) else (some false)))))
def laws_FnExactStageSizes.f (k : Nat) (l0 : List (S38)) : Option (Bool) := (laws_szPathS.f l0 1048576).bind fun t272 => (if t272 < 0 then (some true) else ((laws_toPathS.f k l0).bind fun t273 => ((spec_StageSizes.f k t273).bind fun t276 => ((laws_toPathS.f k l0).bind fun t279 => ((impl_StageSizes.f k t279).bind fun t282 => ((laws_eqIntS.f k t282 t276).bind fun t285 => (if t285 = true then ((laws_toPathS.f k l0).bind fun t286 => ((laws_eqPathS.f k t279 t286).bind fun t289 => (if t289 = true then ((laws_markPathS.f k t279 1).bind fun bt290 => (if bt290.1 < 0 then (laws_FnExactStageSizes.j0 k l0 t276 t282 true) else ((laws_eqIntS.f k t282 t276).bind fun t292 => (laws_FnExactStageSizes.j0 k l0 t276 t282 (!t292))))) else (some false)))) else (some false))))))))
set_option maxHeartbeats 8000000 in
set_option maxRecDepth 100000 in
theorem laws_FnExactStageSizes.calls (k : Nat) (A0 : Option Addr) (c0 : Nat) (l0 : List (S38)) (r : Bool) (w : World) (hr0 : Kd.C k38 w A0 l0.length l0) (hc0 : l0.length ≤ c0) (h : laws_FnExactStageSizes.f k l0 = some r) :
    Calls Try.prog 3 #[.slice A0 l0.length c0] w fun e w' => e = .returned (.bool r) ∧ Below w.heap.size w w' := by
  have HR0 := Aside0.mk hr0
  have HC0 := Aside0.mk hc0
  clear hr0 hc0
  have HB := Aside0.mk (Below.refl w.heap.size w)
  have H : ((laws_szPathS.f l0 1048576).bind fun t272 => (if t272 < 0 then (some true) else ((laws_toPathS.f k l0).bind fun t273 => ((spec_StageSizes.f k t273).bind fun t276 => ((laws_toPathS.f k l0).bind fun t279 => ((impl_StageSizes.f k t279).bind fun t282 => ((laws_eqIntS.f k t282 t276).bind fun t285 => (if t285 = true then ((laws_toPathS.f k l0).bind fun t286 => ((laws_eqPathS.f k t279 t286).bind fun t289 => (if t289 = true then ((laws_markPathS.f k t279 1).bind fun bt290 => (if bt290.1 < 0 then (laws_FnExactStageSizes.j0 k l0 t276 t282 true) else ((laws_eqIntS.f k t282 t276).bind fun t292 => (laws_FnExactStageSizes.j0 k l0 t276 t282 (!t292))))) else (some false)))) else (some false))))))))) = some r := h
  clear h
  replace H := Option.bind_eq_some_iff.mp H
  obtain ⟨t272, A20, H⟩ := H
  replace H : (if t272 < 0 then (some true) else ((laws_toPathS.f k l0).bind fun t273 => ((spec_StageSizes.f k t273).bind fun t276 => ((laws_toPathS.f k l0).bind fun t279 => ((impl_StageSizes.f k t279).bind fun t282 => ((laws_eqIntS.f k t282 t276).bind fun t285 => (if t285 = true then ((laws_toPathS.f k l0).bind fun t286 => ((laws_eqPathS.f k t279 t286).bind fun t289 => (if t289 = true then ((laws_markPathS.f k t279 1).bind fun bt290 => (if bt290.1 < 0 then (laws_FnExactStageSizes.j0 k l0 t276 t282 true) else ((laws_eqIntS.f k t282 t276).bind fun t292 => (laws_FnExactStageSizes.j0 k l0 t276 t282 (!t292))))) else (some false)))) else (some false)))))))) = some r := H
  have A2 := Aside0.mk A20
  clear A20
  by_cases c3 : t272 < 0
  · rw [if_pos c3] at H
    have c3b0 : decide (t272 < 0) = true := decide_eq_true c3
    clear c3
    obtain rfl := Option.some.inj H
    go_enter Try.func3, Try.ntmps3
    go_wp2_with (first | ((with_reducible refine gate_callee (f := 4) rfl ?_); refine goesL_ (some 13) rfl rfl Try.func4 (by kernel_rfl) rfl #[.slice A0 l0.length c0, .int .i64 1048576] rfl (by (try simp only [List.map_toArray, List.map_cons, List.map_nil]); first | done | rfl | (simp only [List.length_drop, List.length_take]; rfl)) ?_; (with_reducible refine (laws_szPathS.calls _ _ l0 1048576 t272 _ ?side1 ?side2 A2.out).mono ?_); (case side1 => repeat (first | exact HR0.out | (with_reducible refine Kd.C_alloc ?_ _) | (with_reducible refine Kd.C_drewN ?_ _) | (with_reducible refine Kd.C_drew ?_))); (case side2 => exact HC0.out); rintro e w' ⟨rfl, ⟨nd, rfl⟩⟩; refine ⟨_, rfl, ?_⟩))
    go_ret
    exact ⟨by first | rfl | (simp [errW_none, errW_some] <;> rfl) | (simp [*, errW_none, errW_some] <;> rfl), by repeat (first | (with_reducible first | exact HB.out | apply below_alloc | apply pw_below_drewN | apply below_drew1) | exact HB.out)⟩
  · rw [if_neg c3] at H
    have c3b0 : decide (t272 < 0) = false := decide_eq_false c3
    clear c3
    replace H := Option.bind_eq_some_iff.mp H
    obtain ⟨t273, A40, H⟩ := H
    replace H : ((spec_StageSizes.f k t273).bind fun t276 => ((laws_toPathS.f k l0).bind fun t279 => ((impl_StageSizes.f k t279).bind fun t282 => ((laws_eqIntS.f k t282 t276).bind fun t285 => (if t285 = true then ((laws_toPathS.f k l0).bind fun t286 => ((laws_eqPathS.f k t279 t286).bind fun t289 => (if t289 = true then ((laws_markPathS.f k t279 1).bind fun bt290 => (if bt290.1 < 0 then (laws_FnExactStageSizes.j0 k l0 t276 t282 true) else ((laws_eqIntS.f k t282 t276).bind fun t292 => (laws_FnExactStageSizes.j0 k l0 t276 t282 (!t292))))) else (some false)))) else (some false)))))) = some r := H
    have A4 := Aside0.mk A40
    clear A40
    replace H := Option.bind_eq_some_iff.mp H
    obtain ⟨t276, A50, H⟩ := H
    replace H : ((laws_toPathS.f k l0).bind fun t279 => ((impl_StageSizes.f k t279).bind fun t282 => ((laws_eqIntS.f k t282 t276).bind fun t285 => (if t285 = true then ((laws_toPathS.f k l0).bind fun t286 => ((laws_eqPathS.f k t279 t286).bind fun t289 => (if t289 = true then ((laws_markPathS.f k t279 1).bind fun bt290 => (if bt290.1 < 0 then (laws_FnExactStageSizes.j0 k l0 t276 t282 true) else ((laws_eqIntS.f k t282 t276).bind fun t292 => (laws_FnExactStageSizes.j0 k l0 t276 t282 (!t292))))) else (some false)))) else (some false))))) = some r := H
    have A5 := Aside0.mk A50
    clear A50
    replace H := Option.bind_eq_some_iff.mp H
    obtain ⟨t279, A60, H⟩ := H
    replace H : ((impl_StageSizes.f k t279).bind fun t282 => ((laws_eqIntS.f k t282 t276).bind fun t285 => (if t285 = true then ((laws_toPathS.f k l0).bind fun t286 => ((laws_eqPathS.f k t279 t286).bind fun t289 => (if t289 = true then ((laws_markPathS.f k t279 1).bind fun bt290 => (if bt290.1 < 0 then (laws_FnExactStageSizes.j0 k l0 t276 t282 true) else ((laws_eqIntS.f k t282 t276).bind fun t292 => (laws_FnExactStageSizes.j0 k l0 t276 t282 (!t292))))) else (some false)))) else (some false)))) = some r := H
    have A6 := Aside0.mk A60
    clear A60
    replace H := Option.bind_eq_some_iff.mp H
    obtain ⟨t282, A70, H⟩ := H
    replace H : ((laws_eqIntS.f k t282 t276).bind fun t285 => (if t285 = true then ((laws_toPathS.f k l0).bind fun t286 => ((laws_eqPathS.f k t279 t286).bind fun t289 => (if t289 = true then ((laws_markPathS.f k t279 1).bind fun bt290 => (if bt290.1 < 0 then (laws_FnExactStageSizes.j0 k l0 t276 t282 true) else ((laws_eqIntS.f k t282 t276).bind fun t292 => (laws_FnExactStageSizes.j0 k l0 t276 t282 (!t292))))) else (some false)))) else (some false))) = some r := H
    have A7 := Aside0.mk A70
    clear A70
    replace H := Option.bind_eq_some_iff.mp H
    obtain ⟨t285, A80, H⟩ := H
    replace H : (if t285 = true then ((laws_toPathS.f k l0).bind fun t286 => ((laws_eqPathS.f k t279 t286).bind fun t289 => (if t289 = true then ((laws_markPathS.f k t279 1).bind fun bt290 => (if bt290.1 < 0 then (laws_FnExactStageSizes.j0 k l0 t276 t282 true) else ((laws_eqIntS.f k t282 t276).bind fun t292 => (laws_FnExactStageSizes.j0 k l0 t276 t282 (!t292))))) else (some false)))) else (some false)) = some r := H
    have A8 := Aside0.mk A80
    clear A80
    by_cases c9 : t285 = true
    · subst c9
      have H1 : ((laws_toPathS.f k l0).bind fun t286 => ((laws_eqPathS.f k t279 t286).bind fun t289 => (if t289 = true then ((laws_markPathS.f k t279 1).bind fun bt290 => (if bt290.1 < 0 then (laws_FnExactStageSizes.j0 k l0 t276 t282 true) else ((laws_eqIntS.f k t282 t276).bind fun t292 => (laws_FnExactStageSizes.j0 k l0 t276 t282 (!t292))))) else (some false)))) = some r := by rw [if_pos rfl] at H; exact H
      clear H
      have H := H1
      clear H1
      replace H := Option.bind_eq_some_iff.mp H
      obtain ⟨t286, A100, H⟩ := H
      replace H : ((laws_eqPathS.f k t279 t286).bind fun t289 => (if t289 = true then ((laws_markPathS.f k t279 1).bind fun bt290 => (if bt290.1 < 0 then (laws_FnExactStageSizes.j0 k l0 t276 t282 true) else ((laws_eqIntS.f k t282 t276).bind fun t292 => (laws_FnExactStageSizes.j0 k l0 t276 t282 (!t292))))) else (some false))) = some r := H
      have A10 := Aside0.mk A100
      clear A100
      replace H := Option.bind_eq_some_iff.mp H
      obtain ⟨t289, A110, H⟩ := H
      replace H : (if t289 = true then ((laws_markPathS.f k t279 1).bind fun bt290 => (if bt290.1 < 0 then (laws_FnExactStageSizes.j0 k l0 t276 t282 true) else ((laws_eqIntS.f k t282 t276).bind fun t292 => (laws_FnExactStageSizes.j0 k l0 t276 t282 (!t292))))) else (some false)) = some r := H
      have A11 := Aside0.mk A110
      clear A110
      by_cases c12 : t289 = true
      · subst c12
        have H1 : ((laws_markPathS.f k t279 1).bind fun bt290 => (if bt290.1 < 0 then (laws_FnExactStageSizes.j0 k l0 t276 t282 true) else ((laws_eqIntS.f k t282 t276).bind fun t292 => (laws_FnExactStageSizes.j0 k l0 t276 t282 (!t292))))) = some r := by rw [if_pos rfl] at H; exact H
        clear H
        have H := H1
        clear H1
        replace H := Option.bind_eq_some_iff.mp H
        obtain ⟨⟨t290, t291⟩, A130, H⟩ := H
        replace H : (if t290 < 0 then (laws_FnExactStageSizes.j0 k l0 t276 t282 true) else ((laws_eqIntS.f k t282 t276).bind fun t292 => (laws_FnExactStageSizes.j0 k l0 t276 t282 (!t292)))) = some r := H
        have A13 := Aside0.mk A130
        clear A130
        have HC14 := Aside0.mk H
        clear H
        go_enter Try.func3, Try.ntmps3
        go_upto_region 14 with (first | ((with_reducible refine gate_callee (f := 4) rfl ?_); refine goesL_ (some 13) rfl rfl Try.func4 (by kernel_rfl) rfl #[.slice A0 l0.length c0, .int .i64 1048576] rfl (by (try simp only [List.map_toArray, List.map_cons, List.map_nil]); first | done | rfl | (simp only [List.length_drop, List.length_take]; rfl)) ?_; (with_reducible refine (laws_szPathS.calls _ _ l0 1048576 t272 _ ?side1 ?side2 A2.out).mono ?_); (case side1 => repeat (first | exact HR0.out | (with_reducible refine Kd.C_alloc ?_ _) | (with_reducible refine Kd.C_drewN ?_ _) | (with_reducible refine Kd.C_drew ?_))); (case side2 => exact HC0.out); rintro e w' ⟨rfl, ⟨nd, rfl⟩⟩; refine ⟨_, rfl, ?_⟩) | ((with_reducible refine gate_callee (f := 6) rfl ?_); refine goesL_ (some 17) rfl rfl Try.func6 (by kernel_rfl) rfl #[.slice A0 l0.length c0] rfl (by (try simp only [List.map_toArray, List.map_cons, List.map_nil]); first | done | rfl | (simp only [List.length_drop, List.length_take]; rfl)) ?_; (with_reducible refine (laws_toPathS.calls k _ _ l0 t273 _ ?side1 ?side2 A4.out).mono ?_); (case side1 => repeat (first | exact HR0.out | (with_reducible refine Kd.C_alloc ?_ _) | (with_reducible refine Kd.C_drewN ?_ _) | (with_reducible refine Kd.C_drew ?_))); (case side2 => exact HC0.out); rintro e w15 ⟨v274, rfl, ho0, hb⟩; refine ⟨_, rfl, ?_⟩; have n0_ := Aside0.mk (Kd.R_lower ho0 (below_size (by repeat (first | (with_reducible first | exact HB.out | apply below_alloc | apply pw_below_drewN | apply below_drew1) | exact HB.out)))); have n1_ := Aside0.mk (below_step (by repeat (first | (with_reducible first | exact HB.out | apply below_alloc | apply pw_below_drewN | apply below_drew1) | exact HB.out)) hb); clear HB; have HO275 := n0_; have HB := n1_; clear n0_ n1_; (try clear hb); (try clear hb2); (try clear hk); (try clear hi); (try clear ho0); obtain ⟨Ao16, co16, eo16⟩ := Kd.R_slice HO275.out; subst eo16) | ((with_reducible refine gate_callee (f := 5) rfl ?_); refine goesL_ (some 18) rfl rfl Try.func5 (by kernel_rfl) rfl #[.slice Ao16 t273.length co16] rfl (by (try simp only [List.map_toArray, List.map_cons, List.map_nil]); first | done | rfl | (simp only [List.length_drop, List.length_take]; rfl)) ?_; (with_reducible refine (spec_StageSizes.calls k _ _ t273 t276 _ ?side1 ?side2 A5.out).mono ?_); (case side1 => repeat (first | exact (Kd.R_reads' HO275.out).2.2 | (with_reducible refine Kd.C_alloc ?_ _) | (with_reducible refine Kd.C_drewN ?_ _) | (with_reducible refine Kd.C_drew ?_))); (case side2 => exact (Kd.R_reads' HO275.out).2.1); rintro e w17 ⟨v277, rfl, ho0, hb⟩; refine ⟨_, rfl, ?_⟩; have n0_ := Aside0.mk (Kd.R_below (by (with_reducible repeat (first | apply Kd.R_alloc | apply Kd.R_drewN | apply Kd.R_drew)); exact HO275.out) hb); have n1_ := Aside0.mk (Kd.R_lower ho0 (below_size (by repeat (first | (with_reducible first | exact HB.out | apply below_alloc | apply pw_below_drewN | apply below_drew1) | exact HB.out)))); have n2_ := Aside0.mk (below_step (by repeat (first | (with_reducible first | exact HB.out | apply below_alloc | apply pw_below_drewN | apply below_drew1) | exact HB.out)) hb); clear HO275; clear HB; have HO275 := n0_; have HO278 := n1_; have HB := n2_; clear n0_ n1_ n2_; (try clear hb); (try clear hb2); (try clear hk); (try clear hi); (try clear ho0)) | ((with_reducible refine gate_callee (f := 6) rfl ?_); refine goesL_ (some 20) rfl rfl Try.func6 (by kernel_rfl) rfl #[.slice A0 l0.length c0] rfl (by (try simp only [List.map_toArray, List.map_cons, List.map_nil]); first | done | rfl | (simp only [List.length_drop, List.length_take]; rfl)) ?_; (with_reducible refine (laws_toPathS.calls k _ _ l0 t279 _ ?side1 ?side2 A6.out).mono ?_); (case side1 => repeat (first | exact (Kd.C_below HR0.out HB.out) | (with_reducible refine Kd.C_alloc ?_ _) | (with_reducible refine Kd.C_drewN ?_ _) | (with_reducible refine Kd.C_drew ?_))); (case side2 => exact HC0.out); rintro e w18 ⟨v280, rfl, ho0, hb⟩; refine ⟨_, rfl, ?_⟩; have n0_ := Aside0.mk (Kd.R_elder' (by (with_reducible repeat (first | apply Kd.R_alloc | apply Kd.R_drewN | apply Kd.R_drew)); exact HO275.out) (Kd.R_base ho0) hb); have n1_ := Aside0.mk (Kd.R_below (by (with_reducible repeat (first | apply Kd.R_alloc | apply Kd.R_drewN | apply Kd.R_drew)); exact HO278.out) hb); have n2_ := Aside0.mk (Kd.R_lower (Kd.R_new' ho0 (Kd.R_lt (by (with_reducible repeat (first | apply Kd.R_alloc | apply Kd.R_drewN | apply Kd.R_drew)); exact HO275.out))) (below_size (by repeat (first | (with_reducible first | exact HB.out | apply below_alloc | apply pw_below_drewN | apply below_drew1) | exact HB.out)))); have n3_ := Aside0.mk (below_step (by repeat (first | (with_reducible first | exact HB.out | apply below_alloc | apply pw_below_drewN | apply below_drew1) | exact HB.out)) hb); clear HO275; clear HO278; clear HB; have HO275 := n0_; have HO278 := n1_; have HO281 := n2_; have HB := n3_; clear n0_ n1_ n2_ n3_; (try clear hb); (try clear hb2); (try clear hk); (try clear hi); (try clear ho0); obtain ⟨Ao19, co19, eo19⟩ := Kd.R_slice HO281.out; subst eo19) | ((with_reducible refine gate_callee (f := 7) rfl ?_); refine goesL_ (some 22) rfl rfl Try.func7 (by kernel_rfl) rfl #[.slice Ao19 t279.length co19] rfl (by (try simp only [List.map_toArray, List.map_cons, List.map_nil]); first | done | rfl | (simp only [List.length_drop, List.length_take]; rfl)) ?_; (with_reducible refine (impl_StageSizes.calls k _ _ t279 t282 _ ?side1 ?side2 A7.out).mono ?_); (case side1 => repeat (first | exact (Kd.R_reads' HO281.out).2.2 | (with_reducible refine Kd.C_alloc ?_ _) | (with_reducible refine Kd.C_drewN ?_ _) | (with_reducible refine Kd.C_drew ?_))); (case side2 => exact (Kd.R_reads' HO281.out).2.1); rintro e w20 ⟨v283, rfl, ho0, hb⟩; refine ⟨_, rfl, ?_⟩; have n0_ := Aside0.mk (Kd.R_below (by (with_reducible repeat (first | apply Kd.R_alloc | apply Kd.R_drewN | apply Kd.R_drew)); exact HO275.out) hb); have n1_ := Aside0.mk (Kd.R_elder' (by (with_reducible repeat (first | apply Kd.R_alloc | apply Kd.R_drewN | apply Kd.R_drew)); exact HO278.out) (Kd.R_base ho0) hb); have n2_ := Aside0.mk (Kd.R_below (by (with_reducible repeat (first | apply Kd.R_alloc | apply Kd.R_drewN | apply Kd.R_drew)); exact HO281.out) hb); have n3_ := Aside0.mk (Kd.R_lower (Kd.R_new' ho0 (Kd.R_lt (by (with_reducible repeat (first | apply Kd.R_alloc | apply Kd.R_drewN | apply Kd.R_drew)); exact HO278.out))) (below_size (by repeat (first | (with_reducible first | exact HB.out | apply below_alloc | apply pw_below_drewN | apply below_drew1) | exact HB.out)))); have n4_ := Aside0.mk (below_step (by repeat (first | (with_reducible first | exact HB.out | apply below_alloc | apply pw_below_drewN | apply below_drew1) | exact HB.out)) hb); clear HO275; clear HO278; clear HO281; clear HB; have HO275 := n0_; have HO278 := n1_; have HO281 := n2_; have HO284 := n3_; have HB := n4_; clear n0_ n1_ n2_ n3_ n4_; (try clear hb); (try clear hb2); (try clear hk); (try clear hi); (try clear ho0); obtain ⟨Ao21, co21, eo21⟩ := Kd.R_slice HO284.out; subst eo21; obtain ⟨Ao22, co22, eo22⟩ := Kd.R_slice HO278.out; subst eo22) | ((with_reducible refine gate_callee (f := 8) rfl ?_); refine goesL_ (some 25) rfl rfl Try.func8 (by kernel_rfl) rfl #[.slice Ao21 t282.length co21, .slice Ao22 t276.length co22] rfl (by (try simp only [List.map_toArray, List.map_cons, List.map_nil]); first | done | rfl | (simp only [List.length_drop, List.length_take]; rfl)) ?_; (with_reducible refine (laws_eqIntS.calls k _ _ t282 _ _ t276 true _ ?side1 ?side2 ?side3 ?side4 A8.out).mono ?_); (case side1 => repeat (first | exact (Kd.R_reads' HO284.out).2.2 | (with_reducible refine Kd.C_alloc ?_ _) | (with_reducible refine Kd.C_drewN ?_ _) | (with_reducible refine Kd.C_drew ?_))); (case side2 => exact (Kd.R_reads' HO284.out).2.1); (case side3 => repeat (first | exact (Kd.R_reads' HO278.out).2.2 | (with_reducible refine Kd.C_alloc ?_ _) | (with_reducible refine Kd.C_drewN ?_ _) | (with_reducible refine Kd.C_drew ?_))); (case side4 => exact (Kd.R_reads' HO278.out).2.1); rintro e w' ⟨rfl, ⟨nd, rfl⟩⟩; refine ⟨_, rfl, ?_⟩) | ((with_reducible refine gate_callee (f := 6) rfl ?_); refine goesL_ (some 29) rfl rfl Try.func6 (by kernel_rfl) rfl #[.slice A0 l0.length c0] rfl (by (try simp only [List.map_toArray, List.map_cons, List.map_nil]); first | done | rfl | (simp only [List.length_drop, List.length_take]; rfl)) ?_; (with_reducible refine (laws_toPathS.calls k _ _ l0 t286 _ ?side1 ?side2 A10.out).mono ?_); (case side1 => repeat (first | exact (Kd.C_below HR0.out (by repeat (first | (with_reducible first | exact HB.out | apply below_alloc | apply pw_below_drewN | apply below_drew1) | exact HB.out))) | (with_reducible refine Kd.C_alloc ?_ _) | (with_reducible refine Kd.C_drewN ?_ _) | (with_reducible refine Kd.C_drew ?_))); (case side2 => exact HC0.out); rintro e w23 ⟨v287, rfl, ho0, hb⟩; refine ⟨_, rfl, ?_⟩; have n0_ := Aside0.mk (Kd.R_elder' (by (with_reducible repeat (first | apply Kd.R_alloc | apply Kd.R_drewN | apply Kd.R_drew)); exact HO275.out) (Kd.R_base ho0) hb); have n1_ := Aside0.mk (Kd.R_below (by (with_reducible repeat (first | apply Kd.R_alloc | apply Kd.R_drewN | apply Kd.R_drew)); exact HO278.out) hb); have n2_ := Aside0.mk (Kd.R_elder' (by (with_reducible repeat (first | apply Kd.R_alloc | apply Kd.R_drewN | apply Kd.R_drew)); exact HO281.out) (Kd.R_base ho0) hb); have n3_ := Aside0.mk (Kd.R_below (by (with_reducible repeat (first | apply Kd.R_alloc | apply Kd.R_drewN | apply Kd.R_drew)); exact HO284.out) hb); have n4_ := Aside0.mk (Kd.R_lower (Kd.R_new' (Kd.R_new' ho0 (Kd.R_lt (by (with_reducible repeat (first | apply Kd.R_alloc | apply Kd.R_drewN | apply Kd.R_drew)); exact HO275.out))) (Kd.R_lt (by (with_reducible repeat (first | apply Kd.R_alloc | apply Kd.R_drewN | apply Kd.R_drew)); exact HO281.out))) (below_size (by repeat (first | (with_reducible first | exact HB.out | apply below_alloc | apply pw_below_drewN | apply below_drew1) | exact HB.out)))); have n5_ := Aside0.mk (below_step (by repeat (first | (with_reducible first | exact HB.out | apply below_alloc | apply pw_below_drewN | apply below_drew1) | exact HB.out)) hb); clear HO275; clear HO278; clear HO281; clear HO284; clear HB; have HO275 := n0_; have HO278 := n1_; have HO281 := n2_; have HO284 := n3_; have HO288 := n4_; have HB := n5_; clear n0_ n1_ n2_ n3_ n4_ n5_; (try clear hb); (try clear hb2); (try clear hk); (try clear hi); (try clear ho0); obtain ⟨Ao24, co24, eo24⟩ := Kd.R_slice HO288.out; subst eo24) | ((with_reducible refine gate_callee (f := 9) rfl ?_); refine goesL_ (some 30) rfl rfl Try.func9 (by kernel_rfl) rfl #[.slice Ao19 t279.length co19, .slice Ao24 t286.length co24] rfl (by (try simp only [List.map_toArray, List.map_cons, List.map_nil]); first | done | rfl | (simp only [List.length_drop, List.length_take]; rfl)) ?_; (with_reducible refine (laws_eqPathS.calls k _ _ t279 _ _ t286 true _ ?side1 ?side2 ?side3 ?side4 A11.out).mono ?_); (case side1 => repeat (first | exact (Kd.R_reads' HO281.out).2.2 | (with_reducible refine Kd.C_alloc ?_ _) | (with_reducible refine Kd.C_drewN ?_ _) | (with_reducible refine Kd.C_drew ?_))); (case side2 => exact (Kd.R_reads' HO281.out).2.1); (case side3 => repeat (first | exact (Kd.R_reads' HO288.out).2.2 | (with_reducible refine Kd.C_alloc ?_ _) | (with_reducible refine Kd.C_drewN ?_ _) | (with_reducible refine Kd.C_drew ?_))); (case side4 => exact (Kd.R_reads' HO288.out).2.1); rintro e w25 ⟨rfl, hb⟩; refine ⟨_, rfl, ?_⟩; have n0_ := Aside0.mk (Kd.R_below (by (with_reducible repeat (first | apply Kd.R_alloc | apply Kd.R_drewN | apply Kd.R_drew)); exact HO275.out) hb); have n1_ := Aside0.mk (Kd.R_below (by (with_reducible repeat (first | apply Kd.R_alloc | apply Kd.R_drewN | apply Kd.R_drew)); exact HO278.out) hb); have n2_ := Aside0.mk (Kd.R_below (by (with_reducible repeat (first | apply Kd.R_alloc | apply Kd.R_drewN | apply Kd.R_drew)); exact HO281.out) hb); have n3_ := Aside0.mk (Kd.R_below (by (with_reducible repeat (first | apply Kd.R_alloc | apply Kd.R_drewN | apply Kd.R_drew)); exact HO284.out) hb); have n4_ := Aside0.mk (Kd.R_below (by (with_reducible repeat (first | apply Kd.R_alloc | apply Kd.R_drewN | apply Kd.R_drew)); exact HO288.out) hb); have n5_ := Aside0.mk (below_step (by repeat (first | (with_reducible first | exact HB.out | apply below_alloc | apply pw_below_drewN | apply below_drew1) | exact HB.out)) hb); clear HO275; clear HO278; clear HO281; clear HO284; clear HO288; clear HB; have HO275 := n0_; have HO278 := n1_; have HO281 := n2_; have HO284 := n3_; have HO288 := n4_; have HB := n5_; clear n0_ n1_ n2_ n3_ n4_ n5_; (try clear hb); (try clear hb2); (try clear hk); (try clear hi)) | ((with_reducible refine gate_callee (f := 10) rfl ?_); refine goesL_ (some 34) rfl rfl Try.func10 (by kernel_rfl) rfl #[.slice Ao19 t279.length co19, .int .i64 1] rfl (by (try simp only [List.map_toArray, List.map_cons, List.map_nil]); first | done | rfl | (simp only [List.length_drop, List.length_take]; rfl)) ?_; (with_reducible refine (laws_markPathS.calls k (fun k_ => some k_ = (.slice Ao19 t279.length co19 : Value).ownBlock) (.slice Ao19 t279.length co19) t279 1 t290 t291 w _ ?side1 ?side2 A13.out).mono ?_); (case side1 => repeat (first | (with_reducible first | exact HB.out | apply below_alloc | apply pw_below_drewN | apply below_drew1) | exact HB.out)); (case side2 => exact Kd.R_tight rfl HO281.out); rintro e w26 ⟨rfl, hy0, hb, hkp⟩; refine ⟨_, rfl, ?_⟩; have n0_ := Aside0.mk (Kd.R_mono (ok' := fun k_ => some k_ ≠ (.slice Ao19 t279.length co19 : Value).ownBlock ∧ some k_ ≠ (.slice Ao24 t286.length co24 : Value).ownBlock) (Kd.R_keptB (HO275.out) hkp (fun k_ hk_ hs_ => (hk_.1.2) hs_)) (fun k_ hk_ => ⟨hk_.1.1.2, hk_.1.2⟩)); have n1_ := Aside0.mk (Kd.R_mono (ok' := fun k_ => some k_ ≠ (.slice Ao21 t282.length co21 : Value).ownBlock) (Kd.R_keptB ((Kd.R_apart' HO278.out (Kd.R_typed HO281.out) (by decide))) hkp (fun k_ hk_ hs_ => (hk_.2) hs_)) (fun k_ hk_ => hk_.1.1.2)); have n2_ := Aside0.mk (Kd.R_reok rfl hy0 (fun k_ e_ => HO281.out.1 k_ e_)); have n3_ := Aside0.mk (Kd.R_mono (ok' := fun k_ => some k_ ≠ (.slice Ao22 t276.length co22 : Value).ownBlock) (Kd.R_keptB ((Kd.R_apart' HO284.out (Kd.R_typed HO281.out) (by decide))) hkp (fun k_ hk_ hs_ => (hk_.2) hs_)) (fun k_ hk_ => hk_.1.1.2)); have n4_ := Aside0.mk (Kd.R_mono (ok' := fun k_ => some k_ ≠ (.slice Ao16 t273.length co16 : Value).ownBlock ∧ some k_ ≠ (.slice Ao19 t279.length co19 : Value).ownBlock) (Kd.R_keptB (HO288.out) hkp (fun k_ hk_ hs_ => (hk_.2) hs_)) (fun k_ hk_ => ⟨hk_.1.1.2, hk_.1.2⟩)); have n5_ := Aside0.mk (hb); clear HO275; clear HO278; clear HO281; clear HO284; clear HO288; clear HB; have HO275 := n0_; have HO278 := n1_; have HO281 := n2_; have HO284 := n3_; have HO288 := n4_; have HB := n5_; clear n0_ n1_ n2_ n3_ n4_ n5_; (try clear hb); (try clear hkp); (try clear hy0)))
        (try simp only [Act.put, List.setIfInBounds_toArray, List.set_cons_zero, List.set_cons_succ])
        go_cut [42] (fun v42 wc => ∃ (kq : Nat) (x42_13 : Bool), v42 = .bool x42_13 ∧ Aside0 (laws_FnExactStageSizes.j0 kq l0 t276 t282 x42_13 = some r) ∧ Aside0 (kq ≤ k) ∧ Aside0 (Kd.R (Kd.int .i64) 3 wc w.heap.size (fun k_ => some k_ ≠ ((.slice Ao21 t282.length co21) : Value).ownBlock) (.slice Ao22 t276.length co22) t276) ∧ Aside0 (Kd.R (Kd.int .i64) 3 wc w.heap.size (fun k_ => some k_ ≠ ((.slice Ao22 t276.length co22) : Value).ownBlock) (.slice Ao21 t282.length co21) t282) ∧ Aside0 (Below w.heap.size w wc))
        case first =>
          have H := HC14.out
          clear HC14
          by_cases c27 : t290 < 0
          · rw [if_pos c27] at H
            have c27b0 : decide (t290 < 0) = true := decide_eq_true c27
            clear c27
            (first | rw [c27b0] | (simp only [i64_w, i32_w]; rw [c27b0]) | skip)
            have H' := Aside0.mk H
            clear H
            go_wp2
            go_meet
            case rel => exact ⟨_, (true), (by first | rfl | (simp; done) | (simp [*]; done)), H', ⟨by first | omega | exact Nat.le_refl _⟩, ⟨by (with_reducible repeat (first | apply Kd.R_alloc | apply Kd.R_drewN | apply Kd.R_drew)); exact HO278.out⟩, ⟨by (with_reducible repeat (first | apply Kd.R_alloc | apply Kd.R_drewN | apply Kd.R_drew)); exact HO284.out⟩, ⟨by repeat (first | (with_reducible first | exact HB.out | apply below_alloc | apply pw_below_drewN | apply below_drew1) | exact HB.out)⟩⟩
          · rw [if_neg c27] at H
            have c27b0 : decide (t290 < 0) = false := decide_eq_false c27
            clear c27
            (first | rw [c27b0] | (simp only [i64_w, i32_w]; rw [c27b0]) | skip)
            replace H := Option.bind_eq_some_iff.mp H
            obtain ⟨t292, A280, H⟩ := H
            replace H : (laws_FnExactStageSizes.j0 k l0 t276 t282 (!t292)) = some r := H
            have A28 := Aside0.mk A280
            clear A280
            have H' := Aside0.mk H
            clear H
            go_wp2_with (first | (go_at_call 8; (with_reducible refine (laws_eqIntS.calls k _ _ t282 _ _ t276 t292 _ ?side1 ?side2 ?side3 ?side4 A28.out).mono ?_); (case side1 => repeat (first | exact (Kd.R_reads' HO284.out).2.2 | (with_reducible refine Kd.C_alloc ?_ _) | (with_reducible refine Kd.C_drewN ?_ _) | (with_reducible refine Kd.C_drew ?_))); (case side2 => exact (Kd.R_reads' HO284.out).2.1); (case side3 => repeat (first | exact (Kd.R_reads' HO278.out).2.2 | (with_reducible refine Kd.C_alloc ?_ _) | (with_reducible refine Kd.C_drewN ?_ _) | (with_reducible refine Kd.C_drew ?_))); (case side4 => exact (Kd.R_reads' HO278.out).2.1); rintro e w' ⟨rfl, ⟨nd, rfl⟩⟩))
            go_meet
            case rel => exact ⟨_, (!t292), (by first | rfl | (simp; done) | (simp [*]; done)), H', ⟨by first | omega | exact Nat.le_refl _⟩, ⟨by (with_reducible repeat (first | apply Kd.R_alloc | apply Kd.R_drewN | apply Kd.R_drew)); exact HO278.out⟩, ⟨by (with_reducible repeat (first | apply Kd.R_alloc | apply Kd.R_drewN | apply Kd.R_drew)); exact HO284.out⟩, ⟨by repeat (first | (with_reducible first | exact HB.out | apply below_alloc | apply pw_below_drewN | apply below_drew1) | exact HB.out)⟩⟩
        case rest =>
          clear HC14
          try clear c1
          try clear c2
          try clear p2
          try clear c3
          try clear c3b0
          try clear c4
          try clear c5
          try clear c6
          try clear c7
          try clear c8
          try clear c9
          try clear c10
          try clear c12
          try clear c27
          try clear c27b0
          obtain ⟨kq, x42_13, rfl, HA, HJ13, HO_4, HO_6, HB⟩ := hcut
          cases kq with
          | zero => exact absurd HA.out (by simp [laws_FnExactStageSizes.j0])
          | succ kj13 =>
            have H := HA.out
            clear HA
            simp only [laws_FnExactStageSizes.j0] at H
            by_cases c29 : x42_13 = true
            · subst c29
              have H1 : (some false) = some r := by rw [if_pos rfl] at H; exact H
              clear H
              have H := H1
              clear H1
              obtain rfl := Option.some.inj H
              go_wp2
              go_ret
              exact ⟨by first | rfl | (simp [errW_none, errW_some] <;> rfl) | (simp [*, errW_none, errW_some] <;> rfl), by repeat (first | (with_reducible first | exact HB.out | apply below_alloc | apply pw_below_drewN | apply below_drew1) | exact HB.out)⟩
            · replace c29 := Bool.eq_false_iff.mpr c29
              subst c29
              have H1 : ((laws_markIntS.f kj13 t282 1).bind fun bt293 => ((laws_heldIntS.f kj13 bt293.2 1).bind fun t295 => (if t295 < 0 then (some false) else (if t295 = bt293.1 then ((laws_toPathS.f kj13 l0).bind fun t296 => ((impl_StageSizes.f kj13 t296).bind fun t299 => ((laws_eqIntS.f kj13 t299 t276).bind fun t302 => (if t302 = true then ((laws_heldIntS.f kj13 bt293.2 1).bind fun t303 => (if t303 < 0 then (some false) else (if t303 = bt293.1 then (some true) else (some false)))) else (some false))))) else (some false))))) = some r := by rw [if_neg (show ¬ (false = true) by decide)] at H; exact H
              clear H
              have H := H1
              clear H1
              replace H := Option.bind_eq_some_iff.mp H
              obtain ⟨⟨t293, t294⟩, A300, H⟩ := H
              replace H : ((laws_heldIntS.f kj13 t294 1).bind fun t295 => (if t295 < 0 then (some false) else (if t295 = t293 then ((laws_toPathS.f kj13 l0).bind fun t296 => ((impl_StageSizes.f kj13 t296).bind fun t299 => ((laws_eqIntS.f kj13 t299 t276).bind fun t302 => (if t302 = true then ((laws_heldIntS.f kj13 t294 1).bind fun t303 => (if t303 < 0 then (some false) else (if t303 = t293 then (some true) else (some false)))) else (some false))))) else (some false)))) = some r := H
              have A30 := Aside0.mk A300
              clear A300
              replace H := Option.bind_eq_some_iff.mp H
              obtain ⟨t295, A310, H⟩ := H
              replace H : (if t295 < 0 then (some false) else (if t295 = t293 then ((laws_toPathS.f kj13 l0).bind fun t296 => ((impl_StageSizes.f kj13 t296).bind fun t299 => ((laws_eqIntS.f kj13 t299 t276).bind fun t302 => (if t302 = true then ((laws_heldIntS.f kj13 t294 1).bind fun t303 => (if t303 < 0 then (some false) else (if t303 = t293 then (some true) else (some false)))) else (some false))))) else (some false))) = some r := H
              have A31 := Aside0.mk A310
              clear A310
              by_cases c32 : t295 < 0
              · rw [if_pos c32] at H
                have c32b0 : decide (t295 < 0) = true := decide_eq_true c32
                clear c32
                obtain rfl := Option.some.inj H
                go_wp2_with (first | ((with_reducible refine gate_callee (f := 11) rfl ?_); refine goesL_ (some 45) rfl rfl Try.func11 (by kernel_rfl) rfl #[.slice Ao21 t282.length co21, .int .i64 1] rfl (by (try simp only [List.map_toArray, List.map_cons, List.map_nil]); first | done | rfl | (simp only [List.length_drop, List.length_take]; rfl)) ?_; (with_reducible refine (laws_markIntS.calls kj13 (fun k_ => some k_ = (.slice Ao21 t282.length co21 : Value).ownBlock) (.slice Ao21 t282.length co21) t282 1 t293 t294 w _ ?side1 ?side2 A30.out).mono ?_); (case side1 => repeat (first | (with_reducible first | exact HB.out | apply below_alloc | apply pw_below_drewN | apply below_drew1) | exact HB.out)); (case side2 => exact Kd.R_tight rfl HO_6.out); rintro e w33 ⟨rfl, hy0, hb, hkp⟩; refine ⟨_, rfl, ?_⟩; have n0_ := Aside0.mk (Kd.R_mono (ok' := fun k_ => some k_ ≠ (.slice Ao21 t282.length co21 : Value).ownBlock) (Kd.R_keptB (HO_4.out) hkp (fun k_ hk_ hs_ => (hk_) hs_)) (fun k_ hk_ => hk_.1)); have n1_ := Aside0.mk (Kd.R_reok rfl hy0 (fun k_ e_ => HO_6.out.1 k_ e_)); have n2_ := Aside0.mk (hb); clear HO_4; clear HO_6; clear HB; have HO_4 := n0_; have HO_6 := n1_; have HB := n2_; clear n0_ n1_ n2_; (try clear hb); (try clear hkp); (try clear hy0)) | ((with_reducible refine gate_callee (f := 12) rfl ?_); refine goesL_ (some 48) rfl rfl Try.func12 (by kernel_rfl) rfl #[.slice Ao21 t294.length co21, .int .i64 1] rfl (by (try simp only [List.map_toArray, List.map_cons, List.map_nil]); first | done | (rw [show t294.length = t282.length from (Kd.R_reads' HO_6.out).1.symm] <;> rfl) | rfl | (simp only [List.length_drop, List.length_take]; rfl)) ?_; (with_reducible refine (laws_heldIntS.calls kj13 _ _ t294 1 t295 _ ?side1 ?side2 A31.out).mono ?_); (case side1 => repeat (first | exact (Kd.R_reads' HO_6.out).2.2 | (with_reducible refine Kd.C_alloc ?_ _) | (with_reducible refine Kd.C_drewN ?_ _) | (with_reducible refine Kd.C_drew ?_))); (case side2 => rw [show t294.length = t282.length from (Kd.R_reads' HO_6.out).1.symm]; exact (Kd.R_reads' HO_6.out).2.1); rintro e w' ⟨rfl, ⟨nd, rfl⟩⟩; refine ⟨_, rfl, ?_⟩))
                go_ret
                exact ⟨by first | rfl | (simp [errW_none, errW_some] <;> rfl) | (simp [*, errW_none, errW_some] <;> rfl), by repeat (first | (with_reducible first | exact HB.out | apply below_alloc | apply pw_below_drewN | apply below_drew1) | exact HB.out)⟩
              · rw [if_neg c32] at H
                have c32b0 : decide (t295 < 0) = false := decide_eq_false c32
                clear c32
                by_cases c34 : t295 = t293
                · rw [if_pos c34] at H
                  have c34b0 : (t295 == t293) = true := beq_iff_eq.mpr c34
                  have c34b1 : (t295 != t293) = false := bne_eq_false_iff_eq.mpr c34
                  clear c34
                  replace H := Option.bind_eq_some_iff.mp H
                  obtain ⟨t296, A350, H⟩ := H
                  replace H : ((impl_StageSizes.f kj13 t296).bind fun t299 => ((laws_eqIntS.f kj13 t299 t276).bind fun t302 => (if t302 = true then ((laws_heldIntS.f kj13 t294 1).bind fun t303 => (if t303 < 0 then (some false) else (if t303 = t293 then (some true) else (some false)))) else (some false)))) = some r := H
                  have A35 := Aside0.mk A350
                  clear A350
                  replace H := Option.bind_eq_some_iff.mp H
                  obtain ⟨t299, A360, H⟩ := H
                  replace H : ((laws_eqIntS.f kj13 t299 t276).bind fun t302 => (if t302 = true then ((laws_heldIntS.f kj13 t294 1).bind fun t303 => (if t303 < 0 then (some false) else (if t303 = t293 then (some true) else (some false)))) else (some false))) = some r := H
                  have A36 := Aside0.mk A360
                  clear A360
                  replace H := Option.bind_eq_some_iff.mp H
                  obtain ⟨t302, A370, H⟩ := H
                  replace H : (if t302 = true then ((laws_heldIntS.f kj13 t294 1).bind fun t303 => (if t303 < 0 then (some false) else (if t303 = t293 then (some true) else (some false)))) else (some false)) = some r := H
                  have A37 := Aside0.mk A370
                  clear A370
                  by_cases c38 : t302 = true
                  · subst c38
                    have H1 : ((laws_heldIntS.f kj13 t294 1).bind fun t303 => (if t303 < 0 then (some false) else (if t303 = t293 then (some true) else (some false)))) = some r := by rw [if_pos rfl] at H; exact H
                    clear H
                    have H := H1
                    clear H1
                    replace H := Option.bind_eq_some_iff.mp H
                    obtain ⟨t303, A390, H⟩ := H
                    replace H : (if t303 < 0 then (some false) else (if t303 = t293 then (some true) else (some false))) = some r := H
                    have A39 := Aside0.mk A390
                    clear A390
                    by_cases c40 : t303 < 0
                    · rw [if_pos c40] at H
                      have c40b0 : decide (t303 < 0) = true := decide_eq_true c40
                      clear c40
                      obtain rfl := Option.some.inj H
                      go_wp2_with (first | ((with_reducible refine gate_callee (f := 11) rfl ?_); refine goesL_ (some 45) rfl rfl Try.func11 (by kernel_rfl) rfl #[.slice Ao21 t282.length co21, .int .i64 1] rfl (by (try simp only [List.map_toArray, List.map_cons, List.map_nil]); first | done | rfl | (simp only [List.length_drop, List.length_take]; rfl)) ?_; (with_reducible refine (laws_markIntS.calls kj13 (fun k_ => some k_ = (.slice Ao21 t282.length co21 : Value).ownBlock) (.slice Ao21 t282.length co21) t282 1 t293 t294 w _ ?side1 ?side2 A30.out).mono ?_); (case side1 => repeat (first | (with_reducible first | exact HB.out | apply below_alloc | apply pw_below_drewN | apply below_drew1) | exact HB.out)); (case side2 => exact Kd.R_tight rfl HO_6.out); rintro e w41 ⟨rfl, hy0, hb, hkp⟩; refine ⟨_, rfl, ?_⟩; have n0_ := Aside0.mk (Kd.R_mono (ok' := fun k_ => some k_ ≠ (.slice Ao21 t282.length co21 : Value).ownBlock) (Kd.R_keptB (HO_4.out) hkp (fun k_ hk_ hs_ => (hk_) hs_)) (fun k_ hk_ => hk_.1)); have n1_ := Aside0.mk (Kd.R_reok rfl hy0 (fun k_ e_ => HO_6.out.1 k_ e_)); have n2_ := Aside0.mk (hb); clear HO_4; clear HO_6; clear HB; have HO_4 := n0_; have HO_6 := n1_; have HB := n2_; clear n0_ n1_ n2_; (try clear hb); (try clear hkp); (try clear hy0)) | ((with_reducible refine gate_callee (f := 12) rfl ?_); refine goesL_ (some 48) rfl rfl Try.func12 (by kernel_rfl) rfl #[.slice Ao21 t294.length co21, .int .i64 1] rfl (by (try simp only [List.map_toArray, List.map_cons, List.map_nil]); first | done | (rw [show t294.length = t282.length from (Kd.R_reads' HO_6.out).1.symm] <;> rfl) | rfl | (simp only [List.length_drop, List.length_take]; rfl)) ?_; (with_reducible refine (laws_heldIntS.calls kj13 _ _ t294 1 t295 _ ?side1 ?side2 A31.out).mono ?_); (case side1 => repeat (first | exact (Kd.R_reads' HO_6.out).2.2 | (with_reducible refine Kd.C_alloc ?_ _) | (with_reducible refine Kd.C_drewN ?_ _) | (with_reducible refine Kd.C_drew ?_))); (case side2 => rw [show t294.length = t282.length from (Kd.R_reads' HO_6.out).1.symm]; exact (Kd.R_reads' HO_6.out).2.1); rintro e w' ⟨rfl, ⟨nd, rfl⟩⟩; refine ⟨_, rfl, ?_⟩) | ((with_reducible refine gate_callee (f := 6) rfl ?_); refine goesL_ (some 55) rfl rfl Try.func6 (by kernel_rfl) rfl #[.slice A0 l0.length c0] rfl (by (try simp only [List.map_toArray, List.map_cons, List.map_nil]); first | done | rfl | (simp only [List.length_drop, List.length_take]; rfl)) ?_; (with_reducible refine (laws_toPathS.calls kj13 _ _ l0 t296 _ ?side1 ?side2 A35.out).mono ?_); (case side1 => repeat (first | exact (Kd.C_below HR0.out (by repeat (first | (with_reducible first | exact HB.out | apply below_alloc | apply pw_below_drewN | apply below_drew1) | exact HB.out))) | (with_reducible refine Kd.C_alloc ?_ _) | (with_reducible refine Kd.C_drewN ?_ _) | (with_reducible refine Kd.C_drew ?_))); (case side2 => exact HC0.out); rintro e w42 ⟨v297, rfl, ho0, hb⟩; refine ⟨_, rfl, ?_⟩; have n0_ := Aside0.mk (Kd.R_below (by (with_reducible repeat (first | apply Kd.R_alloc | apply Kd.R_drewN | apply Kd.R_drew)); exact HO_4.out) hb); have n1_ := Aside0.mk (Kd.R_below (by (with_reducible repeat (first | apply Kd.R_alloc | apply Kd.R_drewN | apply Kd.R_drew)); exact HO_6.out) hb); have n2_ := Aside0.mk (Kd.R_lower ho0 (below_size (by repeat (first | (with_reducible first | exact HB.out | apply below_alloc | apply pw_below_drewN | apply below_drew1) | exact HB.out)))); have n3_ := Aside0.mk (below_step (by repeat (first | (with_reducible first | exact HB.out | apply below_alloc | apply pw_below_drewN | apply below_drew1) | exact HB.out)) hb); clear HO_4; clear HO_6; clear HB; have HO_4 := n0_; have HO_6 := n1_; have HO298 := n2_; have HB := n3_; clear n0_ n1_ n2_ n3_; (try clear hb); (try clear hb2); (try clear hk); (try clear hi); (try clear ho0); obtain ⟨Ao43, co43, eo43⟩ := Kd.R_slice HO298.out; subst eo43) | ((with_reducible refine gate_callee (f := 7) rfl ?_); refine goesL_ (some 56) rfl rfl Try.func7 (by kernel_rfl) rfl #[.slice Ao43 t296.length co43] rfl (by (try simp only [List.map_toArray, List.map_cons, List.map_nil]); first | done | rfl | (simp only [List.length_drop, List.length_take]; rfl)) ?_; (with_reducible refine (impl_StageSizes.calls kj13 _ _ t296 t299 _ ?side1 ?side2 A36.out).mono ?_); (case side1 => repeat (first | exact (Kd.R_reads' HO298.out).2.2 | (with_reducible refine Kd.C_alloc ?_ _) | (with_reducible refine Kd.C_drewN ?_ _) | (with_reducible refine Kd.C_drew ?_))); (case side2 => exact (Kd.R_reads' HO298.out).2.1); rintro e w44 ⟨v300, rfl, ho0, hb⟩; refine ⟨_, rfl, ?_⟩; have n0_ := Aside0.mk (Kd.R_elder' (by (with_reducible repeat (first | apply Kd.R_alloc | apply Kd.R_drewN | apply Kd.R_drew)); exact HO_4.out) (Kd.R_base ho0) hb); have n1_ := Aside0.mk (Kd.R_elder' (by (with_reducible repeat (first | apply Kd.R_alloc | apply Kd.R_drewN | apply Kd.R_drew)); exact HO_6.out) (Kd.R_base ho0) hb); have n2_ := Aside0.mk (Kd.R_below (by (with_reducible repeat (first | apply Kd.R_alloc | apply Kd.R_drewN | apply Kd.R_drew)); exact HO298.out) hb); have n3_ := Aside0.mk (Kd.R_lower (Kd.R_new' (Kd.R_new' ho0 (Kd.R_lt (by (with_reducible repeat (first | apply Kd.R_alloc | apply Kd.R_drewN | apply Kd.R_drew)); exact HO_4.out))) (Kd.R_lt (by (with_reducible repeat (first | apply Kd.R_alloc | apply Kd.R_drewN | apply Kd.R_drew)); exact HO_6.out))) (below_size (by repeat (first | (with_reducible first | exact HB.out | apply below_alloc | apply pw_below_drewN | apply below_drew1) | exact HB.out)))); have n4_ := Aside0.mk (below_step (by repeat (first | (with_reducible first | exact HB.out | apply below_alloc | apply pw_below_drewN | apply below_drew1) | exact HB.out)) hb); clear HO_4; clear HO_6; clear HO298; clear HB; have HO_4 := n0_; have HO_6 := n1_; have HO298 := n2_; have HO301 := n3_; have HB := n4_; clear n0_ n1_ n2_ n3_ n4_; (try clear hb); (try clear hb2); (try clear hk); (try clear hi); (try clear ho0); obtain ⟨Ao45, co45, eo45⟩ := Kd.R_slice HO301.out; subst eo45) | ((with_reducible refine gate_callee (f := 8) rfl ?_); refine goesL_ (some 59) rfl rfl Try.func8 (by kernel_rfl) rfl #[.slice Ao45 t299.length co45, .slice Ao22 t276.length co22] rfl (by (try simp only [List.map_toArray, List.map_cons, List.map_nil]); first | done | rfl | (simp only [List.length_drop, List.length_take]; rfl)) ?_; (with_reducible refine (laws_eqIntS.calls kj13 _ _ t299 _ _ t276 true _ ?side1 ?side2 ?side3 ?side4 A37.out).mono ?_); (case side1 => repeat (first | exact (Kd.R_reads' HO301.out).2.2 | (with_reducible refine Kd.C_alloc ?_ _) | (with_reducible refine Kd.C_drewN ?_ _) | (with_reducible refine Kd.C_drew ?_))); (case side2 => exact (Kd.R_reads' HO301.out).2.1); (case side3 => repeat (first | exact (Kd.R_reads' HO_4.out).2.2 | (with_reducible refine Kd.C_alloc ?_ _) | (with_reducible refine Kd.C_drewN ?_ _) | (with_reducible refine Kd.C_drew ?_))); (case side4 => exact (Kd.R_reads' HO_4.out).2.1); rintro e w' ⟨rfl, ⟨nd, rfl⟩⟩; refine ⟨_, rfl, ?_⟩) | ((with_reducible refine gate_callee (f := 12) rfl ?_); refine goesL_ (some 63) rfl rfl Try.func12 (by kernel_rfl) rfl #[.slice Ao21 t294.length co21, .int .i64 1] rfl (by (try simp only [List.map_toArray, List.map_cons, List.map_nil]); first | done | (rw [show t294.length = t282.length from (Kd.R_reads' HO_6.out).1.symm] <;> rfl) | rfl | (simp only [List.length_drop, List.length_take]; rfl)) ?_; (with_reducible refine (laws_heldIntS.calls kj13 _ _ t294 1 t303 _ ?side1 ?side2 A39.out).mono ?_); (case side1 => repeat (first | exact (Kd.R_reads' HO_6.out).2.2 | (with_reducible refine Kd.C_alloc ?_ _) | (with_reducible refine Kd.C_drewN ?_ _) | (with_reducible refine Kd.C_drew ?_))); (case side2 => rw [show t294.length = t282.length from (Kd.R_reads' HO_6.out).1.symm]; exact (Kd.R_reads' HO_6.out).2.1); rintro e w' ⟨rfl, ⟨nd, rfl⟩⟩; refine ⟨_, rfl, ?_⟩))
                      go_ret
                      exact ⟨by first | rfl | (simp [errW_none, errW_some] <;> rfl) | (simp [*, errW_none, errW_some] <;> rfl), by repeat (first | (with_reducible first | exact HB.out | apply below_alloc | apply pw_below_drewN | apply below_drew1) | exact HB.out)⟩
                    · rw [if_neg c40] at H
                      have c40b0 : decide (t303 < 0) = false := decide_eq_false c40
                      clear c40
                      by_cases c46 : t303 = t293
                      · rw [if_pos c46] at H
                        have c46b0 : (t303 == t293) = true := beq_iff_eq.mpr c46
                        have c46b1 : (t303 != t293) = false := bne_eq_false_iff_eq.mpr c46
                        clear c46
                        obtain rfl := Option.some.inj H
                        go_wp2_with (first | ((with_reducible refine gate_callee (f := 11) rfl ?_); refine goesL_ (some 45) rfl rfl Try.func11 (by kernel_rfl) rfl #[.slice Ao21 t282.length co21, .int .i64 1] rfl (by (try simp only [List.map_toArray, List.map_cons, List.map_nil]); first | done | rfl | (simp only [List.length_drop, List.length_take]; rfl)) ?_; (with_reducible refine (laws_markIntS.calls kj13 (fun k_ => some k_ = (.slice Ao21 t282.length co21 : Value).ownBlock) (.slice Ao21 t282.length co21) t282 1 t293 t294 w _ ?side1 ?side2 A30.out).mono ?_); (case side1 => repeat (first | (with_reducible first | exact HB.out | apply below_alloc | apply pw_below_drewN | apply below_drew1) | exact HB.out)); (case side2 => exact Kd.R_tight rfl HO_6.out); rintro e w47 ⟨rfl, hy0, hb, hkp⟩; refine ⟨_, rfl, ?_⟩; have n0_ := Aside0.mk (Kd.R_mono (ok' := fun k_ => some k_ ≠ (.slice Ao21 t282.length co21 : Value).ownBlock) (Kd.R_keptB (HO_4.out) hkp (fun k_ hk_ hs_ => (hk_) hs_)) (fun k_ hk_ => hk_.1)); have n1_ := Aside0.mk (Kd.R_reok rfl hy0 (fun k_ e_ => HO_6.out.1 k_ e_)); have n2_ := Aside0.mk (hb); clear HO_4; clear HO_6; clear HB; have HO_4 := n0_; have HO_6 := n1_; have HB := n2_; clear n0_ n1_ n2_; (try clear hb); (try clear hkp); (try clear hy0)) | ((with_reducible refine gate_callee (f := 12) rfl ?_); refine goesL_ (some 48) rfl rfl Try.func12 (by kernel_rfl) rfl #[.slice Ao21 t294.length co21, .int .i64 1] rfl (by (try simp only [List.map_toArray, List.map_cons, List.map_nil]); first | done | (rw [show t294.length = t282.length from (Kd.R_reads' HO_6.out).1.symm] <;> rfl) | rfl | (simp only [List.length_drop, List.length_take]; rfl)) ?_; (with_reducible refine (laws_heldIntS.calls kj13 _ _ t294 1 t295 _ ?side1 ?side2 A31.out).mono ?_); (case side1 => repeat (first | exact (Kd.R_reads' HO_6.out).2.2 | (with_reducible refine Kd.C_alloc ?_ _) | (with_reducible refine Kd.C_drewN ?_ _) | (with_reducible refine Kd.C_drew ?_))); (case side2 => rw [show t294.length = t282.length from (Kd.R_reads' HO_6.out).1.symm]; exact (Kd.R_reads' HO_6.out).2.1); rintro e w' ⟨rfl, ⟨nd, rfl⟩⟩; refine ⟨_, rfl, ?_⟩) | ((with_reducible refine gate_callee (f := 6) rfl ?_); refine goesL_ (some 55) rfl rfl Try.func6 (by kernel_rfl) rfl #[.slice A0 l0.length c0] rfl (by (try simp only [List.map_toArray, List.map_cons, List.map_nil]); first | done | rfl | (simp only [List.length_drop, List.length_take]; rfl)) ?_; (with_reducible refine (laws_toPathS.calls kj13 _ _ l0 t296 _ ?side1 ?side2 A35.out).mono ?_); (case side1 => repeat (first | exact (Kd.C_below HR0.out (by repeat (first | (with_reducible first | exact HB.out | apply below_alloc | apply pw_below_drewN | apply below_drew1) | exact HB.out))) | (with_reducible refine Kd.C_alloc ?_ _) | (with_reducible refine Kd.C_drewN ?_ _) | (with_reducible refine Kd.C_drew ?_))); (case side2 => exact HC0.out); rintro e w48 ⟨v297, rfl, ho0, hb⟩; refine ⟨_, rfl, ?_⟩; have n0_ := Aside0.mk (Kd.R_below (by (with_reducible repeat (first | apply Kd.R_alloc | apply Kd.R_drewN | apply Kd.R_drew)); exact HO_4.out) hb); have n1_ := Aside0.mk (Kd.R_below (by (with_reducible repeat (first | apply Kd.R_alloc | apply Kd.R_drewN | apply Kd.R_drew)); exact HO_6.out) hb); have n2_ := Aside0.mk (Kd.R_lower ho0 (below_size (by repeat (first | (with_reducible first | exact HB.out | apply below_alloc | apply pw_below_drewN | apply below_drew1) | exact HB.out)))); have n3_ := Aside0.mk (below_step (by repeat (first | (with_reducible first | exact HB.out | apply below_alloc | apply pw_below_drewN | apply below_drew1) | exact HB.out)) hb); clear HO_4; clear HO_6; clear HB; have HO_4 := n0_; have HO_6 := n1_; have HO298 := n2_; have HB := n3_; clear n0_ n1_ n2_ n3_; (try clear hb); (try clear hb2); (try clear hk); (try clear hi); (try clear ho0); obtain ⟨Ao49, co49, eo49⟩ := Kd.R_slice HO298.out; subst eo49) | ((with_reducible refine gate_callee (f := 7) rfl ?_); refine goesL_ (some 56) rfl rfl Try.func7 (by kernel_rfl) rfl #[.slice Ao49 t296.length co49] rfl (by (try simp only [List.map_toArray, List.map_cons, List.map_nil]); first | done | rfl | (simp only [List.length_drop, List.length_take]; rfl)) ?_; (with_reducible refine (impl_StageSizes.calls kj13 _ _ t296 t299 _ ?side1 ?side2 A36.out).mono ?_); (case side1 => repeat (first | exact (Kd.R_reads' HO298.out).2.2 | (with_reducible refine Kd.C_alloc ?_ _) | (with_reducible refine Kd.C_drewN ?_ _) | (with_reducible refine Kd.C_drew ?_))); (case side2 => exact (Kd.R_reads' HO298.out).2.1); rintro e w50 ⟨v300, rfl, ho0, hb⟩; refine ⟨_, rfl, ?_⟩; have n0_ := Aside0.mk (Kd.R_elder' (by (with_reducible repeat (first | apply Kd.R_alloc | apply Kd.R_drewN | apply Kd.R_drew)); exact HO_4.out) (Kd.R_base ho0) hb); have n1_ := Aside0.mk (Kd.R_elder' (by (with_reducible repeat (first | apply Kd.R_alloc | apply Kd.R_drewN | apply Kd.R_drew)); exact HO_6.out) (Kd.R_base ho0) hb); have n2_ := Aside0.mk (Kd.R_below (by (with_reducible repeat (first | apply Kd.R_alloc | apply Kd.R_drewN | apply Kd.R_drew)); exact HO298.out) hb); have n3_ := Aside0.mk (Kd.R_lower (Kd.R_new' (Kd.R_new' ho0 (Kd.R_lt (by (with_reducible repeat (first | apply Kd.R_alloc | apply Kd.R_drewN | apply Kd.R_drew)); exact HO_4.out))) (Kd.R_lt (by (with_reducible repeat (first | apply Kd.R_alloc | apply Kd.R_drewN | apply Kd.R_drew)); exact HO_6.out))) (below_size (by repeat (first | (with_reducible first | exact HB.out | apply below_alloc | apply pw_below_drewN | apply below_drew1) | exact HB.out)))); have n4_ := Aside0.mk (below_step (by repeat (first | (with_reducible first | exact HB.out | apply below_alloc | apply pw_below_drewN | apply below_drew1) | exact HB.out)) hb); clear HO_4; clear HO_6; clear HO298; clear HB; have HO_4 := n0_; have HO_6 := n1_; have HO298 := n2_; have HO301 := n3_; have HB := n4_; clear n0_ n1_ n2_ n3_ n4_; (try clear hb); (try clear hb2); (try clear hk); (try clear hi); (try clear ho0); obtain ⟨Ao51, co51, eo51⟩ := Kd.R_slice HO301.out; subst eo51) | ((with_reducible refine gate_callee (f := 8) rfl ?_); refine goesL_ (some 59) rfl rfl Try.func8 (by kernel_rfl) rfl #[.slice Ao51 t299.length co51, .slice Ao22 t276.length co22] rfl (by (try simp only [List.map_toArray, List.map_cons, List.map_nil]); first | done | rfl | (simp only [List.length_drop, List.length_take]; rfl)) ?_; (with_reducible refine (laws_eqIntS.calls kj13 _ _ t299 _ _ t276 true _ ?side1 ?side2 ?side3 ?side4 A37.out).mono ?_); (case side1 => repeat (first | exact (Kd.R_reads' HO301.out).2.2 | (with_reducible refine Kd.C_alloc ?_ _) | (with_reducible refine Kd.C_drewN ?_ _) | (with_reducible refine Kd.C_drew ?_))); (case side2 => exact (Kd.R_reads' HO301.out).2.1); (case side3 => repeat (first | exact (Kd.R_reads' HO_4.out).2.2 | (with_reducible refine Kd.C_alloc ?_ _) | (with_reducible refine Kd.C_drewN ?_ _) | (with_reducible refine Kd.C_drew ?_))); (case side4 => exact (Kd.R_reads' HO_4.out).2.1); rintro e w' ⟨rfl, ⟨nd, rfl⟩⟩; refine ⟨_, rfl, ?_⟩) | ((with_reducible refine gate_callee (f := 12) rfl ?_); refine goesL_ (some 63) rfl rfl Try.func12 (by kernel_rfl) rfl #[.slice Ao21 t294.length co21, .int .i64 1] rfl (by (try simp only [List.map_toArray, List.map_cons, List.map_nil]); first | done | (rw [show t294.length = t282.length from (Kd.R_reads' HO_6.out).1.symm] <;> rfl) | rfl | (simp only [List.length_drop, List.length_take]; rfl)) ?_; (with_reducible refine (laws_heldIntS.calls kj13 _ _ t294 1 t303 _ ?side1 ?side2 A39.out).mono ?_); (case side1 => repeat (first | exact (Kd.R_reads' HO_6.out).2.2 | (with_reducible refine Kd.C_alloc ?_ _) | (with_reducible refine Kd.C_drewN ?_ _) | (with_reducible refine Kd.C_drew ?_))); (case side2 => rw [show t294.length = t282.length from (Kd.R_reads' HO_6.out).1.symm]; exact (Kd.R_reads' HO_6.out).2.1); rintro e w' ⟨rfl, ⟨nd, rfl⟩⟩; refine ⟨_, rfl, ?_⟩))
                        go_ret
                        exact ⟨by first | rfl | (simp [errW_none, errW_some] <;> rfl) | (simp [*, errW_none, errW_some] <;> rfl), by repeat (first | (with_reducible first | exact HB.out | apply below_alloc | apply pw_below_drewN | apply below_drew1) | exact HB.out)⟩
                      · rw [if_neg c46] at H
                        have c46b0 : (t303 == t293) = false := beq_eq_false_iff_ne.mpr c46
                        have c46b1 : (t303 != t293) = true := bne_iff_ne.mpr c46
                        obtain rfl := Option.some.inj H
                        go_wp2_with (first | ((with_reducible refine gate_callee (f := 11) rfl ?_); refine goesL_ (some 45) rfl rfl Try.func11 (by kernel_rfl) rfl #[.slice Ao21 t282.length co21, .int .i64 1] rfl (by (try simp only [List.map_toArray, List.map_cons, List.map_nil]); first | done | rfl | (simp only [List.length_drop, List.length_take]; rfl)) ?_; (with_reducible refine (laws_markIntS.calls kj13 (fun k_ => some k_ = (.slice Ao21 t282.length co21 : Value).ownBlock) (.slice Ao21 t282.length co21) t282 1 t293 t294 w _ ?side1 ?side2 A30.out).mono ?_); (case side1 => repeat (first | (with_reducible first | exact HB.out | apply below_alloc | apply pw_below_drewN | apply below_drew1) | exact HB.out)); (case side2 => exact Kd.R_tight rfl HO_6.out); rintro e w52 ⟨rfl, hy0, hb, hkp⟩; refine ⟨_, rfl, ?_⟩; have n0_ := Aside0.mk (Kd.R_mono (ok' := fun k_ => some k_ ≠ (.slice Ao21 t282.length co21 : Value).ownBlock) (Kd.R_keptB (HO_4.out) hkp (fun k_ hk_ hs_ => (hk_) hs_)) (fun k_ hk_ => hk_.1)); have n1_ := Aside0.mk (Kd.R_reok rfl hy0 (fun k_ e_ => HO_6.out.1 k_ e_)); have n2_ := Aside0.mk (hb); clear HO_4; clear HO_6; clear HB; have HO_4 := n0_; have HO_6 := n1_; have HB := n2_; clear n0_ n1_ n2_; (try clear hb); (try clear hkp); (try clear hy0)) | ((with_reducible refine gate_callee (f := 12) rfl ?_); refine goesL_ (some 48) rfl rfl Try.func12 (by kernel_rfl) rfl #[.slice Ao21 t294.length co21, .int .i64 1] rfl (by (try simp only [List.map_toArray, List.map_cons, List.map_nil]); first | done | (rw [show t294.length = t282.length from (Kd.R_reads' HO_6.out).1.symm] <;> rfl) | rfl | (simp only [List.length_drop, List.length_take]; rfl)) ?_; (with_reducible refine (laws_heldIntS.calls kj13 _ _ t294 1 t295 _ ?side1 ?side2 A31.out).mono ?_); (case side1 => repeat (first | exact (Kd.R_reads' HO_6.out).2.2 | (with_reducible refine Kd.C_alloc ?_ _) | (with_reducible refine Kd.C_drewN ?_ _) | (with_reducible refine Kd.C_drew ?_))); (case side2 => rw [show t294.length = t282.length from (Kd.R_reads' HO_6.out).1.symm]; exact (Kd.R_reads' HO_6.out).2.1); rintro e w' ⟨rfl, ⟨nd, rfl⟩⟩; refine ⟨_, rfl, ?_⟩) | ((with_reducible refine gate_callee (f := 6) rfl ?_); refine goesL_ (some 55) rfl rfl Try.func6 (by kernel_rfl) rfl #[.slice A0 l0.length c0] rfl (by (try simp only [List.map_toArray, List.map_cons, List.map_nil]); first | done | rfl | (simp only [List.length_drop, List.length_take]; rfl)) ?_; (with_reducible refine (laws_toPathS.calls kj13 _ _ l0 t296 _ ?side1 ?side2 A35.out).mono ?_); (case side1 => repeat (first | exact (Kd.C_below HR0.out (by repeat (first | (with_reducible first | exact HB.out | apply below_alloc | apply pw_below_drewN | apply below_drew1) | exact HB.out))) | (with_reducible refine Kd.C_alloc ?_ _) | (with_reducible refine Kd.C_drewN ?_ _) | (with_reducible refine Kd.C_drew ?_))); (case side2 => exact HC0.out); rintro e w53 ⟨v297, rfl, ho0, hb⟩; refine ⟨_, rfl, ?_⟩; have n0_ := Aside0.mk (Kd.R_below (by (with_reducible repeat (first | apply Kd.R_alloc | apply Kd.R_drewN | apply Kd.R_drew)); exact HO_4.out) hb); have n1_ := Aside0.mk (Kd.R_below (by (with_reducible repeat (first | apply Kd.R_alloc | apply Kd.R_drewN | apply Kd.R_drew)); exact HO_6.out) hb); have n2_ := Aside0.mk (Kd.R_lower ho0 (below_size (by repeat (first | (with_reducible first | exact HB.out | apply below_alloc | apply pw_below_drewN | apply below_drew1) | exact HB.out)))); have n3_ := Aside0.mk (below_step (by repeat (first | (with_reducible first | exact HB.out | apply below_alloc | apply pw_below_drewN | apply below_drew1) | exact HB.out)) hb); clear HO_4; clear HO_6; clear HB; have HO_4 := n0_; have HO_6 := n1_; have HO298 := n2_; have HB := n3_; clear n0_ n1_ n2_ n3_; (try clear hb); (try clear hb2); (try clear hk); (try clear hi); (try clear ho0); obtain ⟨Ao54, co54, eo54⟩ := Kd.R_slice HO298.out; subst eo54) | ((with_reducible refine gate_callee (f := 7) rfl ?_); refine goesL_ (some 56) rfl rfl Try.func7 (by kernel_rfl) rfl #[.slice Ao54 t296.length co54] rfl (by (try simp only [List.map_toArray, List.map_cons, List.map_nil]); first | done | rfl | (simp only [List.length_drop, List.length_take]; rfl)) ?_; (with_reducible refine (impl_StageSizes.calls kj13 _ _ t296 t299 _ ?side1 ?side2 A36.out).mono ?_); (case side1 => repeat (first | exact (Kd.R_reads' HO298.out).2.2 | (with_reducible refine Kd.C_alloc ?_ _) | (with_reducible refine Kd.C_drewN ?_ _) | (with_reducible refine Kd.C_drew ?_))); (case side2 => exact (Kd.R_reads' HO298.out).2.1); rintro e w55 ⟨v300, rfl, ho0, hb⟩; refine ⟨_, rfl, ?_⟩; have n0_ := Aside0.mk (Kd.R_elder' (by (with_reducible repeat (first | apply Kd.R_alloc | apply Kd.R_drewN | apply Kd.R_drew)); exact HO_4.out) (Kd.R_base ho0) hb); have n1_ := Aside0.mk (Kd.R_elder' (by (with_reducible repeat (first | apply Kd.R_alloc | apply Kd.R_drewN | apply Kd.R_drew)); exact HO_6.out) (Kd.R_base ho0) hb); have n2_ := Aside0.mk (Kd.R_below (by (with_reducible repeat (first | apply Kd.R_alloc | apply Kd.R_drewN | apply Kd.R_drew)); exact HO298.out) hb); have n3_ := Aside0.mk (Kd.R_lower (Kd.R_new' (Kd.R_new' ho0 (Kd.R_lt (by (with_reducible repeat (first | apply Kd.R_alloc | apply Kd.R_drewN | apply Kd.R_drew)); exact HO_4.out))) (Kd.R_lt (by (with_reducible repeat (first | apply Kd.R_alloc | apply Kd.R_drewN | apply Kd.R_drew)); exact HO_6.out))) (below_size (by repeat (first | (with_reducible first | exact HB.out | apply below_alloc | apply pw_below_drewN | apply below_drew1) | exact HB.out)))); have n4_ := Aside0.mk (below_step (by repeat (first | (with_reducible first | exact HB.out | apply below_alloc | apply pw_below_drewN | apply below_drew1) | exact HB.out)) hb); clear HO_4; clear HO_6; clear HO298; clear HB; have HO_4 := n0_; have HO_6 := n1_; have HO298 := n2_; have HO301 := n3_; have HB := n4_; clear n0_ n1_ n2_ n3_ n4_; (try clear hb); (try clear hb2); (try clear hk); (try clear hi); (try clear ho0); obtain ⟨Ao56, co56, eo56⟩ := Kd.R_slice HO301.out; subst eo56) | ((with_reducible refine gate_callee (f := 8) rfl ?_); refine goesL_ (some 59) rfl rfl Try.func8 (by kernel_rfl) rfl #[.slice Ao56 t299.length co56, .slice Ao22 t276.length co22] rfl (by (try simp only [List.map_toArray, List.map_cons, List.map_nil]); first | done | rfl | (simp only [List.length_drop, List.length_take]; rfl)) ?_; (with_reducible refine (laws_eqIntS.calls kj13 _ _ t299 _ _ t276 true _ ?side1 ?side2 ?side3 ?side4 A37.out).mono ?_); (case side1 => repeat (first | exact (Kd.R_reads' HO301.out).2.2 | (with_reducible refine Kd.C_alloc ?_ _) | (with_reducible refine Kd.C_drewN ?_ _) | (with_reducible refine Kd.C_drew ?_))); (case side2 => exact (Kd.R_reads' HO301.out).2.1); (case side3 => repeat (first | exact (Kd.R_reads' HO_4.out).2.2 | (with_reducible refine Kd.C_alloc ?_ _) | (with_reducible refine Kd.C_drewN ?_ _) | (with_reducible refine Kd.C_drew ?_))); (case side4 => exact (Kd.R_reads' HO_4.out).2.1); rintro e w' ⟨rfl, ⟨nd, rfl⟩⟩; refine ⟨_, rfl, ?_⟩) | ((with_reducible refine gate_callee (f := 12) rfl ?_); refine goesL_ (some 63) rfl rfl Try.func12 (by kernel_rfl) rfl #[.slice Ao21 t294.length co21, .int .i64 1] rfl (by (try simp only [List.map_toArray, List.map_cons, List.map_nil]); first | done | (rw [show t294.length = t282.length from (Kd.R_reads' HO_6.out).1.symm] <;> rfl) | rfl | (simp only [List.length_drop, List.length_take]; rfl)) ?_; (with_reducible refine (laws_heldIntS.calls kj13 _ _ t294 1 t303 _ ?side1 ?side2 A39.out).mono ?_); (case side1 => repeat (first | exact (Kd.R_reads' HO_6.out).2.2 | (with_reducible refine Kd.C_alloc ?_ _) | (with_reducible refine Kd.C_drewN ?_ _) | (with_reducible refine Kd.C_drew ?_))); (case side2 => rw [show t294.length = t282.length from (Kd.R_reads' HO_6.out).1.symm]; exact (Kd.R_reads' HO_6.out).2.1); rintro e w' ⟨rfl, ⟨nd, rfl⟩⟩; refine ⟨_, rfl, ?_⟩))
                        go_ret
                        exact ⟨by first | rfl | (simp [errW_none, errW_some] <;> rfl) | (simp [*, errW_none, errW_some] <;> rfl), by repeat (first | (with_reducible first | exact HB.out | apply below_alloc | apply pw_below_drewN | apply below_drew1) | exact HB.out)⟩
                  · replace c38 := Bool.eq_false_iff.mpr c38
                    subst c38
                    have H1 : (some false) = some r := by rw [if_neg (show ¬ (false = true) by decide)] at H; exact H
                    clear H
                    have H := H1
                    clear H1
                    obtain rfl := Option.some.inj H
                    go_wp2_with (first | ((with_reducible refine gate_callee (f := 11) rfl ?_); refine goesL_ (some 45) rfl rfl Try.func11 (by kernel_rfl) rfl #[.slice Ao21 t282.length co21, .int .i64 1] rfl (by (try simp only [List.map_toArray, List.map_cons, List.map_nil]); first | done | rfl | (simp only [List.length_drop, List.length_take]; rfl)) ?_; (with_reducible refine (laws_markIntS.calls kj13 (fun k_ => some k_ = (.slice Ao21 t282.length co21 : Value).ownBlock) (.slice Ao21 t282.length co21) t282 1 t293 t294 w _ ?side1 ?side2 A30.out).mono ?_); (case side1 => repeat (first | (with_reducible first | exact HB.out | apply below_alloc | apply pw_below_drewN | apply below_drew1) | exact HB.out)); (case side2 => exact Kd.R_tight rfl HO_6.out); rintro e w57 ⟨rfl, hy0, hb, hkp⟩; refine ⟨_, rfl, ?_⟩; have n0_ := Aside0.mk (Kd.R_mono (ok' := fun k_ => some k_ ≠ (.slice Ao21 t282.length co21 : Value).ownBlock) (Kd.R_keptB (HO_4.out) hkp (fun k_ hk_ hs_ => (hk_) hs_)) (fun k_ hk_ => hk_.1)); have n1_ := Aside0.mk (Kd.R_reok rfl hy0 (fun k_ e_ => HO_6.out.1 k_ e_)); have n2_ := Aside0.mk (hb); clear HO_4; clear HO_6; clear HB; have HO_4 := n0_; have HO_6 := n1_; have HB := n2_; clear n0_ n1_ n2_; (try clear hb); (try clear hkp); (try clear hy0)) | ((with_reducible refine gate_callee (f := 12) rfl ?_); refine goesL_ (some 48) rfl rfl Try.func12 (by kernel_rfl) rfl #[.slice Ao21 t294.length co21, .int .i64 1] rfl (by (try simp only [List.map_toArray, List.map_cons, List.map_nil]); first | done | (rw [show t294.length = t282.length from (Kd.R_reads' HO_6.out).1.symm] <;> rfl) | rfl | (simp only [List.length_drop, List.length_take]; rfl)) ?_; (with_reducible refine (laws_heldIntS.calls kj13 _ _ t294 1 t295 _ ?side1 ?side2 A31.out).mono ?_); (case side1 => repeat (first | exact (Kd.R_reads' HO_6.out).2.2 | (with_reducible refine Kd.C_alloc ?_ _) | (with_reducible refine Kd.C_drewN ?_ _) | (with_reducible refine Kd.C_drew ?_))); (case side2 => rw [show t294.length = t282.length from (Kd.R_reads' HO_6.out).1.symm]; exact (Kd.R_reads' HO_6.out).2.1); rintro e w' ⟨rfl, ⟨nd, rfl⟩⟩; refine ⟨_, rfl, ?_⟩) | ((with_reducible refine gate_callee (f := 6) rfl ?_); refine goesL_ (some 55) rfl rfl Try.func6 (by kernel_rfl) rfl #[.slice A0 l0.length c0] rfl (by (try simp only [List.map_toArray, List.map_cons, List.map_nil]); first | done | rfl | (simp only [List.length_drop, List.length_take]; rfl)) ?_; (with_reducible refine (laws_toPathS.calls kj13 _ _ l0 t296 _ ?side1 ?side2 A35.out).mono ?_); (case side1 => repeat (first | exact (Kd.C_below HR0.out (by repeat (first | (with_reducible first | exact HB.out | apply below_alloc | apply pw_below_drewN | apply below_drew1) | exact HB.out))) | (with_reducible refine Kd.C_alloc ?_ _) | (with_reducible refine Kd.C_drewN ?_ _) | (with_reducible refine Kd.C_drew ?_))); (case side2 => exact HC0.out); rintro e w58 ⟨v297, rfl, ho0, hb⟩; refine ⟨_, rfl, ?_⟩; have n0_ := Aside0.mk (Kd.R_below (by (with_reducible repeat (first | apply Kd.R_alloc | apply Kd.R_drewN | apply Kd.R_drew)); exact HO_4.out) hb); have n1_ := Aside0.mk (Kd.R_below (by (with_reducible repeat (first | apply Kd.R_alloc | apply Kd.R_drewN | apply Kd.R_drew)); exact HO_6.out) hb); have n2_ := Aside0.mk (Kd.R_lower ho0 (below_size (by repeat (first | (with_reducible first | exact HB.out | apply below_alloc | apply pw_below_drewN | apply below_drew1) | exact HB.out)))); have n3_ := Aside0.mk (below_step (by repeat (first | (with_reducible first | exact HB.out | apply below_alloc | apply pw_below_drewN | apply below_drew1) | exact HB.out)) hb); clear HO_4; clear HO_6; clear HB; have HO_4 := n0_; have HO_6 := n1_; have HO298 := n2_; have HB := n3_; clear n0_ n1_ n2_ n3_; (try clear hb); (try clear hb2); (try clear hk); (try clear hi); (try clear ho0); obtain ⟨Ao59, co59, eo59⟩ := Kd.R_slice HO298.out; subst eo59) | ((with_reducible refine gate_callee (f := 7) rfl ?_); refine goesL_ (some 56) rfl rfl Try.func7 (by kernel_rfl) rfl #[.slice Ao59 t296.length co59] rfl (by (try simp only [List.map_toArray, List.map_cons, List.map_nil]); first | done | rfl | (simp only [List.length_drop, List.length_take]; rfl)) ?_; (with_reducible refine (impl_StageSizes.calls kj13 _ _ t296 t299 _ ?side1 ?side2 A36.out).mono ?_); (case side1 => repeat (first | exact (Kd.R_reads' HO298.out).2.2 | (with_reducible refine Kd.C_alloc ?_ _) | (with_reducible refine Kd.C_drewN ?_ _) | (with_reducible refine Kd.C_drew ?_))); (case side2 => exact (Kd.R_reads' HO298.out).2.1); rintro e w60 ⟨v300, rfl, ho0, hb⟩; refine ⟨_, rfl, ?_⟩; have n0_ := Aside0.mk (Kd.R_elder' (by (with_reducible repeat (first | apply Kd.R_alloc | apply Kd.R_drewN | apply Kd.R_drew)); exact HO_4.out) (Kd.R_base ho0) hb); have n1_ := Aside0.mk (Kd.R_elder' (by (with_reducible repeat (first | apply Kd.R_alloc | apply Kd.R_drewN | apply Kd.R_drew)); exact HO_6.out) (Kd.R_base ho0) hb); have n2_ := Aside0.mk (Kd.R_below (by (with_reducible repeat (first | apply Kd.R_alloc | apply Kd.R_drewN | apply Kd.R_drew)); exact HO298.out) hb); have n3_ := Aside0.mk (Kd.R_lower (Kd.R_new' (Kd.R_new' ho0 (Kd.R_lt (by (with_reducible repeat (first | apply Kd.R_alloc | apply Kd.R_drewN | apply Kd.R_drew)); exact HO_4.out))) (Kd.R_lt (by (with_reducible repeat (first | apply Kd.R_alloc | apply Kd.R_drewN | apply Kd.R_drew)); exact HO_6.out))) (below_size (by repeat (first | (with_reducible first | exact HB.out | apply below_alloc | apply pw_below_drewN | apply below_drew1) | exact HB.out)))); have n4_ := Aside0.mk (below_step (by repeat (first | (with_reducible first | exact HB.out | apply below_alloc | apply pw_below_drewN | apply below_drew1) | exact HB.out)) hb); clear HO_4; clear HO_6; clear HO298; clear HB; have HO_4 := n0_; have HO_6 := n1_; have HO298 := n2_; have HO301 := n3_; have HB := n4_; clear n0_ n1_ n2_ n3_ n4_; (try clear hb); (try clear hb2); (try clear hk); (try clear hi); (try clear ho0); obtain ⟨Ao61, co61, eo61⟩ := Kd.R_slice HO301.out; subst eo61) | ((with_reducible refine gate_callee (f := 8) rfl ?_); refine goesL_ (some 59) rfl rfl Try.func8 (by kernel_rfl) rfl #[.slice Ao61 t299.length co61, .slice Ao22 t276.length co22] rfl (by (try simp only [List.map_toArray, List.map_cons, List.map_nil]); first | done | rfl | (simp only [List.length_drop, List.length_take]; rfl)) ?_; (with_reducible refine (laws_eqIntS.calls kj13 _ _ t299 _ _ t276 false _ ?side1 ?side2 ?side3 ?side4 A37.out).mono ?_); (case side1 => repeat (first | exact (Kd.R_reads' HO301.out).2.2 | (with_reducible refine Kd.C_alloc ?_ _) | (with_reducible refine Kd.C_drewN ?_ _) | (with_reducible refine Kd.C_drew ?_))); (case side2 => exact (Kd.R_reads' HO301.out).2.1); (case side3 => repeat (first | exact (Kd.R_reads' HO_4.out).2.2 | (with_reducible refine Kd.C_alloc ?_ _) | (with_reducible refine Kd.C_drewN ?_ _) | (with_reducible refine Kd.C_drew ?_))); (case side4 => exact (Kd.R_reads' HO_4.out).2.1); rintro e w' ⟨rfl, ⟨nd, rfl⟩⟩; refine ⟨_, rfl, ?_⟩))
                    go_ret
                    exact ⟨by first | rfl | (simp [errW_none, errW_some] <;> rfl) | (simp [*, errW_none, errW_some] <;> rfl), by repeat (first | (with_reducible first | exact HB.out | apply below_alloc | apply pw_below_drewN | apply below_drew1) | exact HB.out)⟩
                · rw [if_neg c34] at H
                  have c34b0 : (t295 == t293) = false := beq_eq_false_iff_ne.mpr c34
                  have c34b1 : (t295 != t293) = true := bne_iff_ne.mpr c34
                  obtain rfl := Option.some.inj H
                  go_wp2_with (first | ((with_reducible refine gate_callee (f := 11) rfl ?_); refine goesL_ (some 45) rfl rfl Try.func11 (by kernel_rfl) rfl #[.slice Ao21 t282.length co21, .int .i64 1] rfl (by (try simp only [List.map_toArray, List.map_cons, List.map_nil]); first | done | rfl | (simp only [List.length_drop, List.length_take]; rfl)) ?_; (with_reducible refine (laws_markIntS.calls kj13 (fun k_ => some k_ = (.slice Ao21 t282.length co21 : Value).ownBlock) (.slice Ao21 t282.length co21) t282 1 t293 t294 w _ ?side1 ?side2 A30.out).mono ?_); (case side1 => repeat (first | (with_reducible first | exact HB.out | apply below_alloc | apply pw_below_drewN | apply below_drew1) | exact HB.out)); (case side2 => exact Kd.R_tight rfl HO_6.out); rintro e w62 ⟨rfl, hy0, hb, hkp⟩; refine ⟨_, rfl, ?_⟩; have n0_ := Aside0.mk (Kd.R_mono (ok' := fun k_ => some k_ ≠ (.slice Ao21 t282.length co21 : Value).ownBlock) (Kd.R_keptB (HO_4.out) hkp (fun k_ hk_ hs_ => (hk_) hs_)) (fun k_ hk_ => hk_.1)); have n1_ := Aside0.mk (Kd.R_reok rfl hy0 (fun k_ e_ => HO_6.out.1 k_ e_)); have n2_ := Aside0.mk (hb); clear HO_4; clear HO_6; clear HB; have HO_4 := n0_; have HO_6 := n1_; have HB := n2_; clear n0_ n1_ n2_; (try clear hb); (try clear hkp); (try clear hy0)) | ((with_reducible refine gate_callee (f := 12) rfl ?_); refine goesL_ (some 48) rfl rfl Try.func12 (by kernel_rfl) rfl #[.slice Ao21 t294.length co21, .int .i64 1] rfl (by (try simp only [List.map_toArray, List.map_cons, List.map_nil]); first | done | (rw [show t294.length = t282.length from (Kd.R_reads' HO_6.out).1.symm] <;> rfl) | rfl | (simp only [List.length_drop, List.length_take]; rfl)) ?_; (with_reducible refine (laws_heldIntS.calls kj13 _ _ t294 1 t295 _ ?side1 ?side2 A31.out).mono ?_); (case side1 => repeat (first | exact (Kd.R_reads' HO_6.out).2.2 | (with_reducible refine Kd.C_alloc ?_ _) | (with_reducible refine Kd.C_drewN ?_ _) | (with_reducible refine Kd.C_drew ?_))); (case side2 => rw [show t294.length = t282.length from (Kd.R_reads' HO_6.out).1.symm]; exact (Kd.R_reads' HO_6.out).2.1); rintro e w' ⟨rfl, ⟨nd, rfl⟩⟩; refine ⟨_, rfl, ?_⟩))
                  go_ret
                  exact ⟨by first | rfl | (simp [errW_none, errW_some] <;> rfl) | (simp [*, errW_none, errW_some] <;> rfl), by repeat (first | (with_reducible first | exact HB.out | apply below_alloc | apply pw_below_drewN | apply below_drew1) | exact HB.out)⟩
      · replace c12 := Bool.eq_false_iff.mpr c12
        subst c12
        have H1 : (some false) = some r := by rw [if_neg (show ¬ (false = true) by decide)] at H; exact H
        clear H
        have H := H1
        clear H1
        obtain rfl := Option.some.inj H
        go_enter Try.func3, Try.ntmps3
        go_wp2_with (first | ((with_reducible refine gate_callee (f := 4) rfl ?_); refine goesL_ (some 13) rfl rfl Try.func4 (by kernel_rfl) rfl #[.slice A0 l0.length c0, .int .i64 1048576] rfl (by (try simp only [List.map_toArray, List.map_cons, List.map_nil]); first | done | rfl | (simp only [List.length_drop, List.length_take]; rfl)) ?_; (with_reducible refine (laws_szPathS.calls _ _ l0 1048576 t272 _ ?side1 ?side2 A2.out).mono ?_); (case side1 => repeat (first | exact HR0.out | (with_reducible refine Kd.C_alloc ?_ _) | (with_reducible refine Kd.C_drewN ?_ _) | (with_reducible refine Kd.C_drew ?_))); (case side2 => exact HC0.out); rintro e w' ⟨rfl, ⟨nd, rfl⟩⟩; refine ⟨_, rfl, ?_⟩) | ((with_reducible refine gate_callee (f := 6) rfl ?_); refine goesL_ (some 17) rfl rfl Try.func6 (by kernel_rfl) rfl #[.slice A0 l0.length c0] rfl (by (try simp only [List.map_toArray, List.map_cons, List.map_nil]); first | done | rfl | (simp only [List.length_drop, List.length_take]; rfl)) ?_; (with_reducible refine (laws_toPathS.calls k _ _ l0 t273 _ ?side1 ?side2 A4.out).mono ?_); (case side1 => repeat (first | exact HR0.out | (with_reducible refine Kd.C_alloc ?_ _) | (with_reducible refine Kd.C_drewN ?_ _) | (with_reducible refine Kd.C_drew ?_))); (case side2 => exact HC0.out); rintro e w63 ⟨v274, rfl, ho0, hb⟩; refine ⟨_, rfl, ?_⟩; have n0_ := Aside0.mk (Kd.R_lower ho0 (below_size (by repeat (first | (with_reducible first | exact HB.out | apply below_alloc | apply pw_below_drewN | apply below_drew1) | exact HB.out)))); have n1_ := Aside0.mk (below_step (by repeat (first | (with_reducible first | exact HB.out | apply below_alloc | apply pw_below_drewN | apply below_drew1) | exact HB.out)) hb); clear HB; have HO275 := n0_; have HB := n1_; clear n0_ n1_; (try clear hb); (try clear hb2); (try clear hk); (try clear hi); (try clear ho0); obtain ⟨Ao64, co64, eo64⟩ := Kd.R_slice HO275.out; subst eo64) | ((with_reducible refine gate_callee (f := 5) rfl ?_); refine goesL_ (some 18) rfl rfl Try.func5 (by kernel_rfl) rfl #[.slice Ao64 t273.length co64] rfl (by (try simp only [List.map_toArray, List.map_cons, List.map_nil]); first | done | rfl | (simp only [List.length_drop, List.length_take]; rfl)) ?_; (with_reducible refine (spec_StageSizes.calls k _ _ t273 t276 _ ?side1 ?side2 A5.out).mono ?_); (case side1 => repeat (first | exact (Kd.R_reads' HO275.out).2.2 | (with_reducible refine Kd.C_alloc ?_ _) | (with_reducible refine Kd.C_drewN ?_ _) | (with_reducible refine Kd.C_drew ?_))); (case side2 => exact (Kd.R_reads' HO275.out).2.1); rintro e w65 ⟨v277, rfl, ho0, hb⟩; refine ⟨_, rfl, ?_⟩; have n0_ := Aside0.mk (Kd.R_below (by (with_reducible repeat (first | apply Kd.R_alloc | apply Kd.R_drewN | apply Kd.R_drew)); exact HO275.out) hb); have n1_ := Aside0.mk (Kd.R_lower ho0 (below_size (by repeat (first | (with_reducible first | exact HB.out | apply below_alloc | apply pw_below_drewN | apply below_drew1) | exact HB.out)))); have n2_ := Aside0.mk (below_step (by repeat (first | (with_reducible first | exact HB.out | apply below_alloc | apply pw_below_drewN | apply below_drew1) | exact HB.out)) hb); clear HO275; clear HB; have HO275 := n0_; have HO278 := n1_; have HB := n2_; clear n0_ n1_ n2_; (try clear hb); (try clear hb2); (try clear hk); (try clear hi); (try clear ho0)) | ((with_reducible refine gate_callee (f := 6) rfl ?_); refine goesL_ (some 20) rfl rfl Try.func6 (by kernel_rfl) rfl #[.slice A0 l0.length c0] rfl (by (try simp only [List.map_toArray, List.map_cons, List.map_nil]); first | done | rfl | (simp only [List.length_drop, List.length_take]; rfl)) ?_; (with_reducible refine (laws_toPathS.calls k _ _ l0 t279 _ ?side1 ?side2 A6.out).mono ?_); (case side1 => repeat (first | exact (Kd.C_below HR0.out HB.out) | (with_reducible refine Kd.C_alloc ?_ _) | (with_reducible refine Kd.C_drewN ?_ _) | (with_reducible refine Kd.C_drew ?_))); (case side2 => exact HC0.out); rintro e w66 ⟨v280, rfl, ho0, hb⟩; refine ⟨_, rfl, ?_⟩; have n0_ := Aside0.mk (Kd.R_elder' (by (with_reducible repeat (first | apply Kd.R_alloc | apply Kd.R_drewN | apply Kd.R_drew)); exact HO275.out) (Kd.R_base ho0) hb); have n1_ := Aside0.mk (Kd.R_below (by (with_reducible repeat (first | apply Kd.R_alloc | apply Kd.R_drewN | apply Kd.R_drew)); exact HO278.out) hb); have n2_ := Aside0.mk (Kd.R_lower (Kd.R_new' ho0 (Kd.R_lt (by (with_reducible repeat (first | apply Kd.R_alloc | apply Kd.R_drewN | apply Kd.R_drew)); exact HO275.out))) (below_size (by repeat (first | (with_reducible first | exact HB.out | apply below_alloc | apply pw_below_drewN | apply below_drew1) | exact HB.out)))); have n3_ := Aside0.mk (below_step (by repeat (first | (with_reducible first | exact HB.out | apply below_alloc | apply pw_below_drewN | apply below_drew1) | exact HB.out)) hb); clear HO275; clear HO278; clear HB; have HO275 := n0_; have HO278 := n1_; have HO281 := n2_; have HB := n3_; clear n0_ n1_ n2_ n3_; (try clear hb); (try clear hb2); (try clear hk); (try clear hi); (try clear ho0); obtain ⟨Ao67, co67, eo67⟩ := Kd.R_slice HO281.out; subst eo67) | ((with_reducible refine gate_callee (f := 7) rfl ?_); refine goesL_ (some 22) rfl rfl Try.func7 (by kernel_rfl) rfl #[.slice Ao67 t279.length co67] rfl (by (try simp only [List.map_toArray, List.map_cons, List.map_nil]); first | done | rfl | (simp only [List.length_drop, List.length_take]; rfl)) ?_; (with_reducible refine (impl_StageSizes.calls k _ _ t279 t282 _ ?side1 ?side2 A7.out).mono ?_); (case side1 => repeat (first | exact (Kd.R_reads' HO281.out).2.2 | (with_reducible refine Kd.C_alloc ?_ _) | (with_reducible refine Kd.C_drewN ?_ _) | (with_reducible refine Kd.C_drew ?_))); (case side2 => exact (Kd.R_reads' HO281.out).2.1); rintro e w68 ⟨v283, rfl, ho0, hb⟩; refine ⟨_, rfl, ?_⟩; have n0_ := Aside0.mk (Kd.R_below (by (with_reducible repeat (first | apply Kd.R_alloc | apply Kd.R_drewN | apply Kd.R_drew)); exact HO275.out) hb); have n1_ := Aside0.mk (Kd.R_elder' (by (with_reducible repeat (first | apply Kd.R_alloc | apply Kd.R_drewN | apply Kd.R_drew)); exact HO278.out) (Kd.R_base ho0) hb); have n2_ := Aside0.mk (Kd.R_below (by (with_reducible repeat (first | apply Kd.R_alloc | apply Kd.R_drewN | apply Kd.R_drew)); exact HO281.out) hb); have n3_ := Aside0.mk (Kd.R_lower (Kd.R_new' ho0 (Kd.R_lt (by (with_reducible repeat (first | apply Kd.R_alloc | apply Kd.R_drewN | apply Kd.R_drew)); exact HO278.out))) (below_size (by repeat (first | (with_reducible first | exact HB.out | apply below_alloc | apply pw_below_drewN | apply below_drew1) | exact HB.out)))); have n4_ := Aside0.mk (below_step (by repeat (first | (with_reducible first | exact HB.out | apply below_alloc | apply pw_below_drewN | apply below_drew1) | exact HB.out)) hb); clear HO275; clear HO278; clear HO281; clear HB; have HO275 := n0_; have HO278 := n1_; have HO281 := n2_; have HO284 := n3_; have HB := n4_; clear n0_ n1_ n2_ n3_ n4_; (try clear hb); (try clear hb2); (try clear hk); (try clear hi); (try clear ho0); obtain ⟨Ao69, co69, eo69⟩ := Kd.R_slice HO284.out; subst eo69; obtain ⟨Ao70, co70, eo70⟩ := Kd.R_slice HO278.out; subst eo70) | ((with_reducible refine gate_callee (f := 8) rfl ?_); refine goesL_ (some 25) rfl rfl Try.func8 (by kernel_rfl) rfl #[.slice Ao69 t282.length co69, .slice Ao70 t276.length co70] rfl (by (try simp only [List.map_toArray, List.map_cons, List.map_nil]); first | done | rfl | (simp only [List.length_drop, List.length_take]; rfl)) ?_; (with_reducible refine (laws_eqIntS.calls k _ _ t282 _ _ t276 true _ ?side1 ?side2 ?side3 ?side4 A8.out).mono ?_); (case side1 => repeat (first | exact (Kd.R_reads' HO284.out).2.2 | (with_reducible refine Kd.C_alloc ?_ _) | (with_reducible refine Kd.C_drewN ?_ _) | (with_reducible refine Kd.C_drew ?_))); (case side2 => exact (Kd.R_reads' HO284.out).2.1); (case side3 => repeat (first | exact (Kd.R_reads' HO278.out).2.2 | (with_reducible refine Kd.C_alloc ?_ _) | (with_reducible refine Kd.C_drewN ?_ _) | (with_reducible refine Kd.C_drew ?_))); (case side4 => exact (Kd.R_reads' HO278.out).2.1); rintro e w' ⟨rfl, ⟨nd, rfl⟩⟩; refine ⟨_, rfl, ?_⟩) | ((with_reducible refine gate_callee (f := 6) rfl ?_); refine goesL_ (some 29) rfl rfl Try.func6 (by kernel_rfl) rfl #[.slice A0 l0.length c0] rfl (by (try simp only [List.map_toArray, List.map_cons, List.map_nil]); first | done | rfl | (simp only [List.length_drop, List.length_take]; rfl)) ?_; (with_reducible refine (laws_toPathS.calls k _ _ l0 t286 _ ?side1 ?side2 A10.out).mono ?_); (case side1 => repeat (first | exact (Kd.C_below HR0.out (by repeat (first | (with_reducible first | exact HB.out | apply below_alloc | apply pw_below_drewN | apply below_drew1) | exact HB.out))) | (with_reducible refine Kd.C_alloc ?_ _) | (with_reducible refine Kd.C_drewN ?_ _) | (with_reducible refine Kd.C_drew ?_))); (case side2 => exact HC0.out); rintro e w71 ⟨v287, rfl, ho0, hb⟩; refine ⟨_, rfl, ?_⟩; have n0_ := Aside0.mk (Kd.R_elder' (by (with_reducible repeat (first | apply Kd.R_alloc | apply Kd.R_drewN | apply Kd.R_drew)); exact HO275.out) (Kd.R_base ho0) hb); have n1_ := Aside0.mk (Kd.R_below (by (with_reducible repeat (first | apply Kd.R_alloc | apply Kd.R_drewN | apply Kd.R_drew)); exact HO278.out) hb); have n2_ := Aside0.mk (Kd.R_elder' (by (with_reducible repeat (first | apply Kd.R_alloc | apply Kd.R_drewN | apply Kd.R_drew)); exact HO281.out) (Kd.R_base ho0) hb); have n3_ := Aside0.mk (Kd.R_below (by (with_reducible repeat (first | apply Kd.R_alloc | apply Kd.R_drewN | apply Kd.R_drew)); exact HO284.out) hb); have n4_ := Aside0.mk (Kd.R_lower (Kd.R_new' (Kd.R_new' ho0 (Kd.R_lt (by (with_reducible repeat (first | apply Kd.R_alloc | apply Kd.R_drewN | apply Kd.R_drew)); exact HO275.out))) (Kd.R_lt (by (with_reducible repeat (first | apply Kd.R_alloc | apply Kd.R_drewN | apply Kd.R_drew)); exact HO281.out))) (below_size (by repeat (first | (with_reducible first | exact HB.out | apply below_alloc | apply pw_below_drewN | apply below_drew1) | exact HB.out)))); have n5_ := Aside0.mk (below_step (by repeat (first | (with_reducible first | exact HB.out | apply below_alloc | apply pw_below_drewN | apply below_drew1) | exact HB.out)) hb); clear HO275; clear HO278; clear HO281; clear HO284; clear HB; have HO275 := n0_; have HO278 := n1_; have HO281 := n2_; have HO284 := n3_; have HO288 := n4_; have HB := n5_; clear n0_ n1_ n2_ n3_ n4_ n5_; (try clear hb); (try clear hb2); (try clear hk); (try clear hi); (try clear ho0); obtain ⟨Ao72, co72, eo72⟩ := Kd.R_slice HO288.out; subst eo72) | ((with_reducible refine gate_callee (f := 9) rfl ?_); refine goesL_ (some 30) rfl rfl Try.func9 (by kernel_rfl) rfl #[.slice Ao67 t279.length co67, .slice Ao72 t286.length co72] rfl (by (try simp only [List.map_toArray, List.map_cons, List.map_nil]); first | done | rfl | (simp only [List.length_drop, List.length_take]; rfl)) ?_; (with_reducible refine (laws_eqPathS.calls k _ _ t279 _ _ t286 false _ ?side1 ?side2 ?side3 ?side4 A11.out).mono ?_); (case side1 => repeat (first | exact (Kd.R_reads' HO281.out).2.2 | (with_reducible refine Kd.C_alloc ?_ _) | (with_reducible refine Kd.C_drewN ?_ _) | (with_reducible refine Kd.C_drew ?_))); (case side2 => exact (Kd.R_reads' HO281.out).2.1); (case side3 => repeat (first | exact (Kd.R_reads' HO288.out).2.2 | (with_reducible refine Kd.C_alloc ?_ _) | (with_reducible refine Kd.C_drewN ?_ _) | (with_reducible refine Kd.C_drew ?_))); (case side4 => exact (Kd.R_reads' HO288.out).2.1); rintro e w73 ⟨rfl, hb⟩; refine ⟨_, rfl, ?_⟩; have n0_ := Aside0.mk (Kd.R_below (by (with_reducible repeat (first | apply Kd.R_alloc | apply Kd.R_drewN | apply Kd.R_drew)); exact HO275.out) hb); have n1_ := Aside0.mk (Kd.R_below (by (with_reducible repeat (first | apply Kd.R_alloc | apply Kd.R_drewN | apply Kd.R_drew)); exact HO278.out) hb); have n2_ := Aside0.mk (Kd.R_below (by (with_reducible repeat (first | apply Kd.R_alloc | apply Kd.R_drewN | apply Kd.R_drew)); exact HO281.out) hb); have n3_ := Aside0.mk (Kd.R_below (by (with_reducible repeat (first | apply Kd.R_alloc | apply Kd.R_drewN | apply Kd.R_drew)); exact HO284.out) hb); have n4_ := Aside0.mk (Kd.R_below (by (with_reducible repeat (first | apply Kd.R_alloc | apply Kd.R_drewN | apply Kd.R_drew)); exact HO288.out) hb); have n5_ := Aside0.mk (below_step (by repeat (first | (with_reducible first | exact HB.out | apply below_alloc | apply pw_below_drewN | apply below_drew1) | exact HB.out)) hb); clear HO275; clear HO278; clear HO281; clear HO284; clear HO288; clear HB; have HO275 := n0_; have HO278 := n1_; have HO281 := n2_; have HO284 := n3_; have HO288 := n4_; have HB := n5_; clear n0_ n1_ n2_ n3_ n4_ n5_; (try clear hb); (try clear hb2); (try clear hk); (try clear hi)))
        go_ret
        exact ⟨by first | rfl | (simp [errW_none, errW_some] <;> rfl) | (simp [*, errW_none, errW_some] <;> rfl), by repeat (first | (with_reducible first | exact HB.out | apply below_alloc | apply pw_below_drewN | apply below_drew1) | exact HB.out)⟩
    · replace c9 := Bool.eq_false_iff.mpr c9
      subst c9
      have H1 : (some false) = some r := by rw [if_neg (show ¬ (false = true) by decide)] at H; exact H
      clear H
      have H := H1
      clear H1
      obtain rfl := Option.some.inj H
      go_enter Try.func3, Try.ntmps3
      go_wp2_with (first | ((with_reducible refine gate_callee (f := 4) rfl ?_); refine goesL_ (some 13) rfl rfl Try.func4 (by kernel_rfl) rfl #[.slice A0 l0.length c0, .int .i64 1048576] rfl (by (try simp only [List.map_toArray, List.map_cons, List.map_nil]); first | done | rfl | (simp only [List.length_drop, List.length_take]; rfl)) ?_; (with_reducible refine (laws_szPathS.calls _ _ l0 1048576 t272 _ ?side1 ?side2 A2.out).mono ?_); (case side1 => repeat (first | exact HR0.out | (with_reducible refine Kd.C_alloc ?_ _) | (with_reducible refine Kd.C_drewN ?_ _) | (with_reducible refine Kd.C_drew ?_))); (case side2 => exact HC0.out); rintro e w' ⟨rfl, ⟨nd, rfl⟩⟩; refine ⟨_, rfl, ?_⟩) | ((with_reducible refine gate_callee (f := 6) rfl ?_); refine goesL_ (some 17) rfl rfl Try.func6 (by kernel_rfl) rfl #[.slice A0 l0.length c0] rfl (by (try simp only [List.map_toArray, List.map_cons, List.map_nil]); first | done | rfl | (simp only [List.length_drop, List.length_take]; rfl)) ?_; (with_reducible refine (laws_toPathS.calls k _ _ l0 t273 _ ?side1 ?side2 A4.out).mono ?_); (case side1 => repeat (first | exact HR0.out | (with_reducible refine Kd.C_alloc ?_ _) | (with_reducible refine Kd.C_drewN ?_ _) | (with_reducible refine Kd.C_drew ?_))); (case side2 => exact HC0.out); rintro e w74 ⟨v274, rfl, ho0, hb⟩; refine ⟨_, rfl, ?_⟩; have n0_ := Aside0.mk (Kd.R_lower ho0 (below_size (by repeat (first | (with_reducible first | exact HB.out | apply below_alloc | apply pw_below_drewN | apply below_drew1) | exact HB.out)))); have n1_ := Aside0.mk (below_step (by repeat (first | (with_reducible first | exact HB.out | apply below_alloc | apply pw_below_drewN | apply below_drew1) | exact HB.out)) hb); clear HB; have HO275 := n0_; have HB := n1_; clear n0_ n1_; (try clear hb); (try clear hb2); (try clear hk); (try clear hi); (try clear ho0); obtain ⟨Ao75, co75, eo75⟩ := Kd.R_slice HO275.out; subst eo75) | ((with_reducible refine gate_callee (f := 5) rfl ?_); refine goesL_ (some 18) rfl rfl Try.func5 (by kernel_rfl) rfl #[.slice Ao75 t273.length co75] rfl (by (try simp only [List.map_toArray, List.map_cons, List.map_nil]); first | done | rfl | (simp only [List.length_drop, List.length_take]; rfl)) ?_; (with_reducible refine (spec_StageSizes.calls k _ _ t273 t276 _ ?side1 ?side2 A5.out).mono ?_); (case side1 => repeat (first | exact (Kd.R_reads' HO275.out).2.2 | (with_reducible refine Kd.C_alloc ?_ _) | (with_reducible refine Kd.C_drewN ?_ _) | (with_reducible refine Kd.C_drew ?_))); (case side2 => exact (Kd.R_reads' HO275.out).2.1); rintro e w76 ⟨v277, rfl, ho0, hb⟩; refine ⟨_, rfl, ?_⟩; have n0_ := Aside0.mk (Kd.R_below (by (with_reducible repeat (first | apply Kd.R_alloc | apply Kd.R_drewN | apply Kd.R_drew)); exact HO275.out) hb); have n1_ := Aside0.mk (Kd.R_lower ho0 (below_size (by repeat (first | (with_reducible first | exact HB.out | apply below_alloc | apply pw_below_drewN | apply below_drew1) | exact HB.out)))); have n2_ := Aside0.mk (below_step (by repeat (first | (with_reducible first | exact HB.out | apply below_alloc | apply pw_below_drewN | apply below_drew1) | exact HB.out)) hb); clear HO275; clear HB; have HO275 := n0_; have HO278 := n1_; have HB := n2_; clear n0_ n1_ n2_; (try clear hb); (try clear hb2); (try clear hk); (try clear hi); (try clear ho0)) | ((with_reducible refine gate_callee (f := 6) rfl ?_); refine goesL_ (some 20) rfl rfl Try.func6 (by kernel_rfl) rfl #[.slice A0 l0.length c0] rfl (by (try simp only [List.map_toArray, List.map_cons, List.map_nil]); first | done | rfl | (simp only [List.length_drop, List.length_take]; rfl)) ?_; (with_reducible refine (laws_toPathS.calls k _ _ l0 t279 _ ?side1 ?side2 A6.out).mono ?_); (case side1 => repeat (first | exact (Kd.C_below HR0.out HB.out) | (with_reducible refine Kd.C_alloc ?_ _) | (with_reducible refine Kd.C_drewN ?_ _) | (with_reducible refine Kd.C_drew ?_))); (case side2 => exact HC0.out); rintro e w77 ⟨v280, rfl, ho0, hb⟩; refine ⟨_, rfl, ?_⟩; have n0_ := Aside0.mk (Kd.R_elder' (by (with_reducible repeat (first | apply Kd.R_alloc | apply Kd.R_drewN | apply Kd.R_drew)); exact HO275.out) (Kd.R_base ho0) hb); have n1_ := Aside0.mk (Kd.R_below (by (with_reducible repeat (first | apply Kd.R_alloc | apply Kd.R_drewN | apply Kd.R_drew)); exact HO278.out) hb); have n2_ := Aside0.mk (Kd.R_lower (Kd.R_new' ho0 (Kd.R_lt (by (with_reducible repeat (first | apply Kd.R_alloc | apply Kd.R_drewN | apply Kd.R_drew)); exact HO275.out))) (below_size (by repeat (first | (with_reducible first | exact HB.out | apply below_alloc | apply pw_below_drewN | apply below_drew1) | exact HB.out)))); have n3_ := Aside0.mk (below_step (by repeat (first | (with_reducible first | exact HB.out | apply below_alloc | apply pw_below_drewN | apply below_drew1) | exact HB.out)) hb); clear HO275; clear HO278; clear HB; have HO275 := n0_; have HO278 := n1_; have HO281 := n2_; have HB := n3_; clear n0_ n1_ n2_ n3_; (try clear hb); (try clear hb2); (try clear hk); (try clear hi); (try clear ho0); obtain ⟨Ao78, co78, eo78⟩ := Kd.R_slice HO281.out; subst eo78) | ((with_reducible refine gate_callee (f := 7) rfl ?_); refine goesL_ (some 22) rfl rfl Try.func7 (by kernel_rfl) rfl #[.slice Ao78 t279.length co78] rfl (by (try simp only [List.map_toArray, List.map_cons, List.map_nil]); first | done | rfl | (simp only [List.length_drop, List.length_take]; rfl)) ?_; (with_reducible refine (impl_StageSizes.calls k _ _ t279 t282 _ ?side1 ?side2 A7.out).mono ?_); (case side1 => repeat (first | exact (Kd.R_reads' HO281.out).2.2 | (with_reducible refine Kd.C_alloc ?_ _) | (with_reducible refine Kd.C_drewN ?_ _) | (with_reducible refine Kd.C_drew ?_))); (case side2 => exact (Kd.R_reads' HO281.out).2.1); rintro e w79 ⟨v283, rfl, ho0, hb⟩; refine ⟨_, rfl, ?_⟩; have n0_ := Aside0.mk (Kd.R_below (by (with_reducible repeat (first | apply Kd.R_alloc | apply Kd.R_drewN | apply Kd.R_drew)); exact HO275.out) hb); have n1_ := Aside0.mk (Kd.R_elder' (by (with_reducible repeat (first | apply Kd.R_alloc | apply Kd.R_drewN | apply Kd.R_drew)); exact HO278.out) (Kd.R_base ho0) hb); have n2_ := Aside0.mk (Kd.R_below (by (with_reducible repeat (first | apply Kd.R_alloc | apply Kd.R_drewN | apply Kd.R_drew)); exact HO281.out) hb); have n3_ := Aside0.mk (Kd.R_lower (Kd.R_new' ho0 (Kd.R_lt (by (with_reducible repeat (first | apply Kd.R_alloc | apply Kd.R_drewN | apply Kd.R_drew)); exact HO278.out))) (below_size (by repeat (first | (with_reducible first | exact HB.out | apply below_alloc | apply pw_below_drewN | apply below_drew1) | exact HB.out)))); have n4_ := Aside0.mk (below_step (by repeat (first | (with_reducible first | exact HB.out | apply below_alloc | apply pw_below_drewN | apply below_drew1) | exact HB.out)) hb); clear HO275; clear HO278; clear HO281; clear HB; have HO275 := n0_; have HO278 := n1_; have HO281 := n2_; have HO284 := n3_; have HB := n4_; clear n0_ n1_ n2_ n3_ n4_; (try clear hb); (try clear hb2); (try clear hk); (try clear hi); (try clear ho0); obtain ⟨Ao80, co80, eo80⟩ := Kd.R_slice HO284.out; subst eo80; obtain ⟨Ao81, co81, eo81⟩ := Kd.R_slice HO278.out; subst eo81) | ((with_reducible refine gate_callee (f := 8) rfl ?_); refine goesL_ (some 25) rfl rfl Try.func8 (by kernel_rfl) rfl #[.slice Ao80 t282.length co80, .slice Ao81 t276.length co81] rfl (by (try simp only [List.map_toArray, List.map_cons, List.map_nil]); first | done | rfl | (simp only [List.length_drop, List.length_take]; rfl)) ?_; (with_reducible refine (laws_eqIntS.calls k _ _ t282 _ _ t276 false _ ?side1 ?side2 ?side3 ?side4 A8.out).mono ?_); (case side1 => repeat (first | exact (Kd.R_reads' HO284.out).2.2 | (with_reducible refine Kd.C_alloc ?_ _) | (with_reducible refine Kd.C_drewN ?_ _) | (with_reducible refine Kd.C_drew ?_))); (case side2 => exact (Kd.R_reads' HO284.out).2.1); (case side3 => repeat (first | exact (Kd.R_reads' HO278.out).2.2 | (with_reducible refine Kd.C_alloc ?_ _) | (with_reducible refine Kd.C_drewN ?_ _) | (with_reducible refine Kd.C_drew ?_))); (case side4 => exact (Kd.R_reads' HO278.out).2.1); rintro e w' ⟨rfl, ⟨nd, rfl⟩⟩; refine ⟨_, rfl, ?_⟩))
      go_ret
      exact ⟨by first | rfl | (simp [errW_none, errW_some] <;> rfl) | (simp [*, errW_none, errW_some] <;> rfl), by repeat (first | (with_reducible first | exact HB.out | apply below_alloc | apply pw_below_drewN | apply below_drew1) | exact HB.out)⟩

end Go.Proofs.Ytkigipimdodliaa.X

namespace Go.Proofs.Ytkigipimdodliaa.X
open Go.RowKit Go.Proofs.PrintWords Go.Proofs.PrintLast Go.Proofs.PrintMore
set_option linter.unusedVariables false
set_option linter.unusedSimpArgs false
theorem set_take {α : Type} {y m : List α} {i : Nat} {v : α} (hi : i < y.length) (hm : m[i]? = some v) (h : y.take i = m.take i) : (y.set i v).take (i + 1) = m.take (i + 1) := by
  rw [List.take_add_one, List.take_add_one, List.take_set_of_le (Nat.le_refl _), h, hm]
  simp [hi]
theorem up64 {i n : Nat} (hi : i < n) (hn : n ≤ 4611686018427387904) : wrap64 ((i : Int) + 1) = ((i + 1 : Nat) : Int) := by rw [w64 (by omega) (by omega)]; simp
def to36 (x : S38) : S36 := ⟨x.f0, x.f1, x.f2, x.f3⟩
theorem rd38_at (l : List S38) {i : Nat} (h : i < l.length) : rd_T38 l (i : Int) = l[i] := by simp [rd_T38, List.getD, h]
theorem toPathS_l0 (l : List S38) (hn : l.length ≤ 4611686018427387904) (d : Nat) : ∀ (i : Nat) (y : List S36), i + d = l.length → y.length = l.length → y.take i = (l.map to36).take i → Ev (fun k => laws_toPathS.l0 k l y (i : Int)) (l.map to36) := by
  induction d with
  | zero =>
    intro i y hi hy ht
    refine Ev.step (fun k => rfl) ?_
    refine Ev.neg (by omega) ?_
    refine Ev.ret ?_
    rw [List.take_of_length_le (by omega), List.take_of_length_le (by simp; omega)] at ht
    exact ht
  | succ d ih =>
    intro i y hi hy ht
    have hlt : i < l.length := by omega
    refine Ev.step (fun k => rfl) ?_
    refine Ev.pos (by omega) ?_
    refine Ev.pos (by omega) ?_
    refine Ev.call rfl ?_
    refine Ev.pos (by omega) ?_
    rw [up64 hlt hn]
    refine ih (i + 1) _ (by omega) (by simpa using hy) ?_
    rw [Int.toNat_natCast, rd38_at l hlt]
    exact set_take (by omega) (by simp [hlt, to36]) ht
theorem toPathS_ev (l : List S38) (hn : l.length ≤ 8796093022208) : Ev (fun k => laws_toPathS.f k l) (l.map to36) := by
  refine Ev.pos (by omega) ?_
  refine Ev.pos (by omega) ?_
  exact toPathS_l0 l (by omega) l.length 0 _ (by omega) (by simp) rfl
theorem eqIntS_l0 (l : List Int) (hn : l.length ≤ 4611686018427387904) (d : Nat) : ∀ (i : Nat), i + d = l.length → Ev (fun k => laws_eqIntS.l0 k l l (i : Int)) true := by
  induction d with
  | zero =>
    intro i hi
    refine Ev.step (fun k => rfl) ?_
    exact Ev.neg (by omega) (Ev.ret rfl)
  | succ d ih =>
    intro i hi
    have hlt : i < l.length := by omega
    refine Ev.step (fun k => rfl) ?_
    refine Ev.pos (by omega) ?_
    refine Ev.pos (by omega) ?_
    refine Ev.pos (by omega) ?_
    refine Ev.pos rfl ?_
    rw [up64 hlt hn]
    exact ih (i + 1) (by omega)
theorem eqIntS_ev (l : List Int) (hn : l.length ≤ 4611686018427387904) : Ev (fun k => laws_eqIntS.f k l l) true := Ev.pos rfl (eqIntS_l0 l hn l.length 0 (by omega))
theorem eqPathS_l0 (l : List S36) (hn : l.length ≤ 4611686018427387904) (d : Nat) : ∀ (i : Nat), i + d = l.length → Ev (fun k => laws_eqPathS.l0 k l l (i : Int)) true := by
  induction d with
  | zero =>
    intro i hi
    refine Ev.step (fun k => rfl) ?_
    exact Ev.neg (by omega) (Ev.ret rfl)
  | succ d ih =>
    intro i hi
    have hlt : i < l.length := by omega
    refine Ev.step (fun k => rfl) ?_
    refine Ev.pos (by omega) ?_
    refine Ev.pos (by omega) ?_
    refine Ev.pos (by omega) ?_
    refine Ev.call (a := true) (by simp [laws_eqPath.f]) ?_
    refine Ev.pos rfl ?_
    rw [up64 hlt hn]
    exact ih (i + 1) (by omega)
theorem eqPathS_ev (l : List S36) (hn : l.length ≤ 4611686018427387904) : Ev (fun k => laws_eqPathS.f k l l) true := Ev.pos rfl (eqPathS_l0 l hn l.length 0 (by omega))
theorem markPathS_l0 (d : Nat) : ∀ (x : List S36) (i : Nat) (a : Int), i + d = x.length → x.length ≤ 1048576 → 0 ≤ a → a + 4 * d ≤ 9223372036854775000 → ∃ y : Int × List S36, 0 ≤ y.1 ∧ Ev (fun k => laws_markPathS.l0 k x a (i : Int)) y := by
  induction d with
  | zero =>
    intro x i a hi hn h0 h1
    refine ⟨(a, x), h0, ?_⟩
    refine Ev.step (fun k => rfl) ?_
    exact Ev.neg (by omega) (Ev.ret rfl)
  | succ d ih =>
    intro x i a hi hn h0 h1
    have hlt : i < x.length := by omega
    have e4 : wrap64 ((wrap64 ((wrap64 ((wrap64 (a + 1)) + 1)) + 1)) + 1) = a + 4 := by
      rw [w64 (i := a + 1) (by omega) (by omega), w64 (i := a + 1 + 1) (by omega) (by omega), w64 (i := a + 1 + 1 + 1) (by omega) (by omega), w64 (by omega) (by omega)]
      omega
    have key : ∀ z : List S36, z.length = x.length → ∃ y : Int × List S36, 0 ≤ y.1 ∧ Ev (fun k => laws_markPathS.l0 k z (a + 4) ((i + 1 : Nat) : Int)) y := fun z hz => ih z (i + 1) (a + 4) (by omega) (by omega) (by omega) (by omega)
    let z1 : List S36 := x.set ((i : Int)).toNat ⟨a, (rd_T36 x i).f1, (rd_T36 x i).f2, (rd_T36 x i).f3⟩
    let z2 : List S36 := z1.set ((i : Int)).toNat ⟨(rd_T36 z1 i).f0, wrap64 (a + 1), (rd_T36 z1 i).f2, (rd_T36 z1 i).f3⟩
    let z3 : List S36 := z2.set ((i : Int)).toNat ⟨(rd_T36 z2 i).f0, (rd_T36 z2 i).f1, wrap64 ((wrap64 (a + 1)) + 1), (rd_T36 z2 i).f3⟩
    let z4 : List S36 := z3.set ((i : Int)).toNat ⟨(rd_T36 z3 i).f0, (rd_T36 z3 i).f1, (rd_T36 z3 i).f2, wrap64 ((wrap64 ((wrap64 (a + 1)) + 1)) + 1)⟩
    obtain ⟨y, hy0, hy⟩ := key z4 (by simp [z4, z3, z2, z1])
    refine ⟨y, hy0, ?_⟩
    refine Ev.step (fun k => rfl) ?_
    refine Ev.pos (by omega) ?_
    refine Ev.pos (by omega) ?_
    refine Ev.call (a := z1) rfl ?_
    refine Ev.call (a := z2) rfl ?_
    refine Ev.call (a := z3) rfl ?_
    rw [e4, up64 hlt (by omega)]
    exact hy
/-- 1, 2, .. n. -/
def marks (n : Nat) : List Int := (List.range n).map fun i : Nat => (i : Int) + 1
theorem marks_at {n i : Nat} (h : i < n) : (marks n)[i]? = some ((i : Int) + 1) := by simp [marks, h]
theorem marks_length (n : Nat) : (marks n).length = n := by simp [marks]
theorem markIntS_l0 (n : Nat) (hn : n ≤ 1048576) (d : Nat) : ∀ (i : Nat) (x : List Int), i + d = n → x.length = n → x.take i = (marks n).take i → Ev (fun k => laws_markIntS.l0 k x ((i : Int) + 1) (i : Int)) ((n : Int) + 1, marks n) := by
  induction d with
  | zero =>
    intro i x hi hx ht
    refine Ev.step (fun k => rfl) ?_
    refine Ev.neg (by omega) (Ev.ret ?_)
    rw [List.take_of_length_le (by omega), List.take_of_length_le (by rw [marks_length]; omega)] at ht
    rw [ht, show i = n by omega]
  | succ d ih =>
    intro i x hi hx ht
    have hlt : i < x.length := by omega
    refine Ev.step (fun k => rfl) ?_
    refine Ev.pos (by omega) ?_
    refine Ev.pos (by omega) ?_
    have e1 : wrap64 ((i : Int) + 1 + 1) = ((i + 1 : Nat) : Int) + 1 := by rw [w64 (by omega) (by omega)]; simp
    rw [e1, up64 hlt (by omega)]
    exact ih (i + 1) _ (by omega) (by simpa using hx) (set_take (by omega) (marks_at (by omega)) ht)
theorem markIntS_ev (x : List Int) (hn : x.length ≤ 1048576) : Ev (fun k => laws_markIntS.f k x 1) ((x.length : Int) + 1, marks x.length) := markIntS_l0 x.length hn x.length 0 x (by omega) rfl rfl
theorem heldIntS_l0 (n : Nat) (hn : n ≤ 1048576) (d : Nat) : ∀ (i : Nat), i + d = n → Ev (fun k => laws_heldIntS.l0 k (marks n) ((i : Int) + 1) (i : Int)) ((n : Int) + 1) := by
  induction d with
  | zero =>
    intro i hi
    refine Ev.step (fun k => rfl) ?_
    refine Ev.neg (by rw [marks_length]; omega) (Ev.ret ?_)
    rw [show i = n by omega]
  | succ d ih =>
    intro i hi
    refine Ev.step (fun k => rfl) ?_
    refine Ev.pos (by rw [marks_length]; omega) ?_
    refine Ev.pos (by omega) ?_
    refine Ev.pos ?_ ?_
    · have := marks_at (n := n) (i := i) (by omega)
      simp [rd, List.getD, this]
    have e1 : wrap64 ((i : Int) + 1 + 1) = ((i + 1 : Nat) : Int) + 1 := by rw [w64 (by omega) (by omega)]; simp
    rw [e1, up64 (n := n) (by omega) (by omega)]
    exact ih (i + 1) (by omega)
theorem heldIntS_ev (n : Nat) (hn : n ≤ 1048576) : Ev (fun k => laws_heldIntS.f k (marks n) 1) ((n : Int) + 1) := heldIntS_l0 n hn n 0 (by omega)
def sizes (S : List (List Int)) : List Int := S.map fun s => (s.length : Int)
theorem rdL3_at (l : List (List Int)) {i : Nat} (h : i < l.length) : rd_L3 l (i : Int) = l[i] := by simp [rd_L3, List.getD, h]
theorem sizes_l0 (S : List (List Int)) (hn : S.length ≤ 1048576) (d : Nat) : ∀ (i : Nat) (acc : List Int), i + d = S.length → acc.length = i → Ev (fun k => spec_StageSizes.l0 k acc S (i : Int)) (acc ++ sizes (S.drop i)) := by
  induction d with
  | zero =>
    intro i acc hi ha
    refine Ev.step (fun k => rfl) ?_
    refine Ev.neg (by omega) (Ev.ret ?_)
    rw [List.drop_eq_nil_of_le (by omega)]
    simp [sizes]
  | succ d ih =>
    intro i acc hi ha
    have hlt : i < S.length := by omega
    refine Ev.step (fun k => rfl) ?_
    refine Ev.pos (by omega) ?_
    refine Ev.pos (by omega) ?_
    refine Ev.pos (by omega) ?_
    rw [up64 hlt (by omega), rdL3_at S hlt]
    refine Ev.cast (ih (i + 1) _ (by omega) (by simp [ha])) ?_
    rw [List.drop_eq_getElem_cons hlt]
    simp only [sizes, List.map_cons, List.append_assoc, List.singleton_append]
theorem sizes_l0' (S : List (List Int)) (hn : S.length ≤ 1048576) (d : Nat) : ∀ (i : Nat) (acc : List Int), i + d = S.length → acc.length = i → Ev (fun k => impl_StageSizes.l0 k acc S (S.length : Int) (i : Int)) (acc ++ sizes (S.drop i)) := by
  induction d with
  | zero =>
    intro i acc hi ha
    refine Ev.step (fun k => rfl) ?_
    refine Ev.neg (by omega) (Ev.ret ?_)
    rw [List.drop_eq_nil_of_le (by omega)]
    simp [sizes]
  | succ d ih =>
    intro i acc hi ha
    have hlt : i < S.length := by omega
    refine Ev.step (fun k => rfl) ?_
    refine Ev.pos (by omega) ?_
    refine Ev.pos (by omega) ?_
    refine Ev.pos (by omega) ?_
    refine Ev.pos (by omega) ?_
    rw [up64 hlt (by omega), rdL3_at S hlt]
    refine Ev.cast (ih (i + 1) _ (by omega) (by simp [ha])) ?_
    rw [List.drop_eq_getElem_cons hlt]
    simp only [sizes, List.map_cons, List.append_assoc, List.singleton_append]
theorem spec_sizes {l : List S36} {S : List (List Int)} (h : Ev (fun k => spec_StagesOf.f k l) S) (hS : S.length ≤ 40) : Ev (fun k => spec_StageSizes.f k l) (sizes S) :=
  Ev.bind h (Ev.cast (sizes_l0 S (by omega) S.length 0 [] (by omega) rfl) (by simp))
theorem impl_sizes {l : List S36} {S : List (List Int)} (h : Ev (fun k => impl_StagesOf.f k l) S) (hS : S.length ≤ 40) : Ev (fun k => impl_StageSizes.f k l) (sizes S) :=
  Ev.bind h (Ev.cast (sizes_l0' S (by omega) S.length 0 [] (by omega) rfl) (by simp))
theorem law_ev (l : List S38) (hn : l.length ≤ 8796093022208) {S : List (List Int)} (h1 : Ev (fun k => spec_StagesOf.f k (l.map to36)) S) (h2 : Ev (fun k => impl_StagesOf.f k (l.map to36)) S) (hS : S.length ≤ 40) : Ev (fun k => laws_FnExactStageSizes.f k l) true := by
  have hw : wrap64 (1048576 - (l.length : Int)) = 1048576 - (l.length : Int) := w64 (by omega) (by omega)
  by_cases hb : l.length ≤ 1048576
  · refine Ev.call (a := 1048576 - (l.length : Int)) (by simp only [laws_szPathS.f, hw]; rw [if_neg (by omega)]) ?_
    refine Ev.neg (by omega) ?_
    have hz : (sizes S).length ≤ 40 := by simpa [sizes] using hS
    have t := toPathS_ev l hn
    have i := impl_sizes h2 hS
    refine Ev.bind t ?_
    refine Ev.bind (spec_sizes h1 hS) ?_
    refine Ev.bind t ?_
    refine Ev.bind i ?_
    refine Ev.bind (eqIntS_ev _ (by omega)) ?_
    refine Ev.pos rfl ?_
    refine Ev.bind t ?_
    refine Ev.bind (eqPathS_ev _ (by simp; omega)) ?_
    refine Ev.pos rfl ?_
    obtain ⟨y, hy0, hy⟩ := markPathS_l0 (l.map to36).length (l.map to36) 0 1 (by omega) (by simpa using hb) (by omega) (by simp; omega)
    refine Ev.bind hy ?_
    refine Ev.neg (by omega) ?_
    refine Ev.bind (eqIntS_ev _ (by omega)) ?_
    refine Ev.step (fun k => rfl) ?_
    refine Ev.bind (markIntS_ev (sizes S) (by omega)) ?_
    refine Ev.bind (heldIntS_ev (sizes S).length (by omega)) ?_
    refine Ev.neg (by omega) ?_
    refine Ev.pos rfl ?_
    refine Ev.bind t ?_
    refine Ev.bind i ?_
    refine Ev.bind (eqIntS_ev _ (by omega)) ?_
    refine Ev.pos rfl ?_
    refine Ev.bind (heldIntS_ev (sizes S).length (by omega)) ?_
    refine Ev.neg (by omega) ?_
    exact Ev.pos rfl (Ev.ret rfl)
  · refine Ev.call (a := -1) (by simp only [laws_szPathS.f, hw]; rw [if_pos (by omega)]) ?_
    exact Ev.pos (by omega) (Ev.ret rfl)
end Go.Proofs.Ytkigipimdodliaa.X

namespace Go.Proofs.Ytkigipimdodliaa.X
open Go.RowKit Go.Proofs.PrintWords Go.Proofs.PrintLast Go.Proofs.PrintMore
set_option linter.unusedVariables false
set_option linter.unusedSimpArgs false
/-! Paths -/
def isPathB (p : S36) : Bool := decide (1 ≤ p.f0) && decide (p.f0 ≤ 20) && (decide (1 ≤ p.f1) && decide (p.f1 ≤ 3)) && (decide (0 ≤ p.f2) && decide (p.f2 ≤ 3)) && (decide (0 ≤ p.f3) && decide (p.f3 ≤ 3)) && ((p.f2 == p.f3) == (p.f1 == 2))
theorem l1In_eq (a b c : Int) : spec_l1In.f a b c = some (decide (b ≤ a) && decide (a ≤ c)) := by
  simp only [spec_l1In.f, ge_iff_le]
  split
  · simp [*]
  · simp [*]
theorem inRange_eq (a b c : Int) : impl_InRange.f a b c = some (decide (b ≤ a) && decide (a ≤ c)) := by
  simp only [impl_InRange.f]
  split
  · simp [*]
  · simp [*]
theorem ite_bool {α : Type} (b : Bool) (x y : α) : (if b = true then x else y) = bif b then x else y := by cases b <;> rfl
theorem spec_isPath (p : S36) : spec_IsPath.f p.f0 p.f1 p.f2 p.f3 = some (isPathB p) := by
  simp only [spec_IsPath.f, l1In_eq, Option.bind_some, isPathB]
  generalize (decide (1 ≤ p.f0) && decide (p.f0 ≤ 20)) = a
  generalize (decide (1 ≤ p.f1) && decide (p.f1 ≤ 3)) = b
  generalize (decide (0 ≤ p.f2) && decide (p.f2 ≤ 3)) = c
  generalize (decide (0 ≤ p.f3) && decide (p.f3 ≤ 3)) = d
  cases a <;> cases b <;> cases c <;> cases d <;> simp
theorem impl_isPath (p : S36) : impl_IsPath.f p.f0 p.f1 p.f2 p.f3 = some (isPathB p) := by
  simp only [impl_IsPath.f, inRange_eq, Option.bind_some, isPathB]
  generalize (decide (1 ≤ p.f0) && decide (p.f0 ≤ 20)) = a
  generalize (decide (1 ≤ p.f1) && decide (p.f1 ≤ 3)) = b
  generalize (decide (0 ≤ p.f2) && decide (p.f2 ≤ 3)) = c
  generalize (decide (0 ≤ p.f3) && decide (p.f3 ≤ 3)) = d
  cases a <;> cases b <;> cases c <;> cases d <;> simp
theorem rdP_at (l : List S36) {i : Nat} (h : i < l.length) : rd_T36 l (i : Int) = l[i] := by simp [rd_T36, List.getD, h]
/-- Valid paths, their Ids ascending, behind one with the Id 'least'. -/
def pathsFrom : Int → List S36 → Bool
  | _, [] => true
  | b, p :: r => isPathB p && decide (b < p.f0) && pathsFrom p.f0 r
def pathsB (l : List S36) : Bool := decide (l.length ≤ 12) && pathsFrom 0 l
theorem isPathB_pos {p : S36} (h : isPathB p = true) : 0 < p.f0 := by
  simp only [isPathB, Bool.and_eq_true, decide_eq_true_eq] at h
  omega
theorem spec_arePaths_l0 (l : List S36) (hn : l.length ≤ 4611686018427387904) (d : Nat) : ∀ (i : Nat) (b : Int) (hi : i + d = l.length), (i = 0 → b = 0) → (∀ h : 0 < i, b = (l[i - 1]'(by omega)).f0) →
    Ev (fun k => spec_ArePaths.l0 k l (i : Int)) (pathsFrom b (l.drop i) && decide (l.length ≤ 12)) := by
  induction d with
  | zero =>
    intro i b hi h0 h1
    refine Ev.step (fun k => rfl) ?_
    refine Ev.neg (by omega) ?_
    refine Ev.ret ?_
    rw [List.drop_eq_nil_of_le (by omega)]
    simp [pathsFrom]
    omega
  | succ d ih =>
    intro i b hi h0 h1
    have hlt : i < l.length := by omega
    refine Ev.step (fun k => rfl) ?_
    refine Ev.pos (by omega) ?_
    refine Ev.pos (by omega) ?_
    refine Ev.call (spec_isPath _) ?_
    rw [rdP_at l hlt, List.drop_eq_getElem_cons hlt]
    simp only [pathsFrom]
    cases hp : isPathB l[i] with
    | false =>
      refine Ev.neg (by simp) ?_
      exact Ev.ret (by simp)
    | true =>
      refine Ev.pos rfl ?_
      have hs : wrap64 ((i : Int) + 1) = ((i + 1 : Nat) : Int) := by rw [w64 (by omega) (by omega)]; simp
      have go : Ev (fun k => spec_ArePaths.l0 k l (wrap64 ((i : Int) + 1))) (pathsFrom l[i].f0 (l.drop (i + 1)) && decide (l.length ≤ 12)) := by
        rw [hs]
        exact ih (i + 1) l[i].f0 (by omega) (by omega) (fun _ => rfl)
      by_cases hz : i = 0
      · subst hz
        refine Ev.neg (by omega) ?_
        refine Ev.cast go ?_
        have := isPathB_pos hp
        rw [h0 rfl]
        simp [this]
      · refine Ev.pos (by omega) ?_
        have hs2 : wrap64 ((i : Int) - 1) = ((i - 1 : Nat) : Int) := by rw [w64 (by omega) (by omega)]; omega
        rw [hs2]
        refine Ev.pos (by omega) ?_
        refine Ev.pos (by omega) ?_
        rw [rdP_at l (show i - 1 < l.length by omega), h1 (by omega)]
        by_cases hge : l[i - 1].f0 ≥ l[i].f0
        · refine Ev.pos hge ?_
          refine Ev.ret ?_
          have : ¬ l[i - 1].f0 < l[i].f0 := by omega
          simp [this]
        · refine Ev.neg hge ?_
          refine Ev.cast go ?_
          have : l[i - 1].f0 < l[i].f0 := by omega
          simp [this]
theorem spec_arePaths (l : List S36) (hn : l.length ≤ 4611686018427387904) : Ev (fun k => spec_ArePaths.f k l) (pathsB l) := by
  have := spec_arePaths_l0 l hn l.length 0 0 (by omega) (fun _ => rfl) (fun h => absurd h (by omega))
  refine Ev.cast this ?_
  rw [List.drop_zero, Bool.and_comm]
  rfl
theorem impl_arePaths_l0 (l : List S36) (hn : l.length ≤ 4611686018427387904) (d : Nat) : ∀ (i : Nat) (b : Int) (hi : i + d = l.length), (i = 0 → b = 0) → (∀ h : 0 < i, b = (l[i - 1]'(by omega)).f0) →
    Ev (fun k => impl_ArePaths.l0 k l l (l.length : Int) (i : Int)) (pathsFrom b (l.drop i)) := by
  induction d with
  | zero =>
    intro i b hi h0 h1
    refine Ev.step (fun k => rfl) ?_
    refine Ev.neg (by omega) ?_
    refine Ev.ret ?_
    rw [List.drop_eq_nil_of_le (by omega)]
    rfl
  | succ d ih =>
    intro i b hi h0 h1
    have hlt : i < l.length := by omega
    refine Ev.step (fun k => rfl) ?_
    refine Ev.pos (by omega) ?_
    refine Ev.pos (by omega) ?_
    refine Ev.pos (by omega) ?_
    refine Ev.call (impl_isPath _) ?_
    rw [rdP_at l hlt, List.drop_eq_getElem_cons hlt]
    simp only [pathsFrom]
    cases hp : isPathB l[i] with
    | false =>
      refine Ev.neg (by simp) ?_
      exact Ev.ret (by simp)
    | true =>
      refine Ev.pos rfl ?_
      have hs : wrap64 ((i : Int) + 1) = ((i + 1 : Nat) : Int) := by rw [w64 (by omega) (by omega)]; simp
      have go : Ev (fun k => impl_ArePaths.l0 k l l (l.length : Int) (wrap64 ((i : Int) + 1))) (pathsFrom l[i].f0 (l.drop (i + 1))) := by
        rw [hs]
        exact ih (i + 1) l[i].f0 (by omega) (by omega) (fun _ => rfl)
      by_cases hz : i = 0
      · subst hz
        refine Ev.neg (by omega) ?_
        refine Ev.cast go ?_
        have := isPathB_pos hp
        rw [h0 rfl]
        simp [this]
      · refine Ev.pos (by omega) ?_
        have hs2 : wrap64 ((i : Int) - 1) = ((i - 1 : Nat) : Int) := by rw [w64 (by omega) (by omega)]; omega
        rw [hs2]
        refine Ev.pos (by omega) ?_
        refine Ev.pos (by omega) ?_
        rw [rdP_at l (show i - 1 < l.length by omega), h1 (by omega)]
        by_cases hge : l[i].f0 ≤ l[i - 1].f0
        · refine Ev.pos hge ?_
          refine Ev.ret ?_
          have : ¬ l[i - 1].f0 < l[i].f0 := by omega
          simp [this]
        · refine Ev.neg hge ?_
          refine Ev.cast go ?_
          have : l[i - 1].f0 < l[i].f0 := by omega
          simp [this]
theorem impl_arePaths (l : List S36) : Ev (fun k => impl_ArePaths.f k l) (pathsB l) := by
  by_cases h : (l.length : Int) > 12
  · refine Ev.pos h ?_
    refine Ev.ret ?_
    have : ¬ l.length ≤ 12 := by omega
    simp [pathsB, this]
  · refine Ev.neg h ?_
    have := impl_arePaths_l0 l (by omega) l.length 0 0 (by omega) (fun _ => rfl) (fun h => absurd h (by omega))
    refine Ev.cast this ?_
    have : l.length ≤ 12 := by omega
    simp [pathsB, this]
/-! Conflicts -/
/-- Do the chords a b and c d of eight places cross (the places apart)? -/
def crossB (a b c d : Int) : Bool := (decide ((c - a + 8) % 8 < (b - a + 8) % 8)) != (decide ((d - a + 8) % 8 < (b - a + 8) % 8))
def confB (p q : S36) : Bool :=
  isPathB p && isPathB q && !(decide (p.f1 = 2) && decide (q.f1 = 2)) &&
    (if p.f1 = 2 then (q.f2 == p.f2 || q.f3 == p.f2) else if q.f1 = 2 then (p.f2 == q.f2 || p.f3 == q.f2) else
      if p.f2 = q.f2 then false else if p.f3 = q.f3 then true else crossB (2 * p.f2) (2 * p.f3 + 1) (2 * q.f2) (2 * q.f3 + 1))
theorem inter_spec : ∀ a b c d : Fin 4, a ≠ c → b ≠ d → spec_Interleave.f 24 (2 * (a.val : Int)) (2 * (b.val : Int) + 1) (2 * (c.val : Int)) (2 * (d.val : Int) + 1) = some (crossB (2 * (a.val : Int)) (2 * (b.val : Int) + 1) (2 * (c.val : Int)) (2 * (d.val : Int) + 1)) := by decide +kernel
theorem inter_impl : ∀ a b c d : Fin 4, impl_Interleave.f 24 (2 * (a.val : Int)) (2 * (b.val : Int) + 1) (2 * (c.val : Int)) (2 * (d.val : Int) + 1) = some (decide (a ≠ c) && decide (b ≠ d) && crossB (2 * (a.val : Int)) (2 * (b.val : Int) + 1) (2 * (c.val : Int)) (2 * (d.val : Int) + 1)) := by decide +kernel
end Go.Proofs.Ytkigipimdodliaa.X

namespace Go.Proofs.Ytkigipimdodliaa.X
open Go.RowKit Go.Proofs.PrintWords Go.Proofs.PrintLast Go.Proofs.PrintMore
set_option linter.unusedVariables false
set_option linter.unusedSimpArgs false
theorem isPathB_arms {p : S36} (h : isPathB p = true) : ∃ a b : Fin 4, p.f2 = (a.val : Int) ∧ p.f3 = (b.val : Int) := by
  simp only [isPathB, Bool.and_eq_true, decide_eq_true_eq] at h
  refine ⟨⟨p.f2.toNat, by omega⟩, ⟨p.f3.toNat, by omega⟩, ?_, ?_⟩ <;> simp <;> omega
theorem spec_inPlace (a : Fin 4) : spec_InPlace.f (a.val : Int) = some (2 * (a.val : Int)) := by revert a; decide +kernel
theorem spec_outPlace (a : Fin 4) : spec_OutPlace.f (a.val : Int) = some (2 * (a.val : Int) + 1) := by revert a; decide +kernel
theorem impl_inPlace (a : Fin 4) : impl_InPlace.f (a.val : Int) = some (2 * (a.val : Int)) := by revert a; decide +kernel
theorem impl_outPlace (a : Fin 4) : impl_OutPlace.f (a.val : Int) = some (2 * (a.val : Int) + 1) := by revert a; decide +kernel
theorem spec_conf (p q : S36) : Ev (fun k => spec_Conflict.f k p.f0 p.f1 p.f2 p.f3 q.f0 q.f1 q.f2 q.f3) (confB p q) := by
  refine Ev.call (spec_isPath p) ?_
  have stop : ∀ b : Bool, confB p q = false → Ev (fun k => spec_Conflict.j0 k true p.f0 p.f1 p.f2 p.f3 q.f0 q.f1 q.f2 q.f3) (confB p q) := by
    intro _ h
    refine Ev.step (fun k => rfl) ?_
    exact Ev.ret h.symm
  cases hp : isPathB p with
  | false =>
    refine Ev.neg (by simp) ?_
    exact stop true (by simp [confB, hp])
  | true =>
    refine Ev.pos (by rfl) ?_
    refine Ev.call (spec_isPath q) ?_
    cases hq : isPathB q with
    | false =>
      refine Ev.neg (by simp) ?_
      exact stop true (by simp [confB, hq])
    | true =>
      refine Ev.pos (by rfl) ?_
      have rest : ¬ (p.f1 = 2 ∧ q.f1 = 2) → Ev (fun k => spec_Conflict.j0 k false p.f0 p.f1 p.f2 p.f3 q.f0 q.f1 q.f2 q.f3) (confB p q) := by
        intro hw
        refine Ev.step (fun k => rfl) ?_
        by_cases c1 : p.f1 = 2
        · have c2 : ¬ q.f1 = 2 := fun h => hw ⟨c1, h⟩
          refine Ev.pos c1 ?_
          by_cases c3 : q.f2 = p.f2
          · exact Ev.pos c3 (Ev.ret (by simp [confB, hp, hq, c1, c2, c3]))
          · exact Ev.neg c3 (Ev.ret (by simp [confB, hp, hq, c1, c2, c3]))
        · refine Ev.neg c1 ?_
          by_cases c2 : q.f1 = 2
          · refine Ev.pos c2 ?_
            by_cases c3 : p.f2 = q.f2
            · exact Ev.pos c3 (Ev.ret (by simp [confB, hp, hq, c1, c2, c3]))
            · exact Ev.neg c3 (Ev.ret (by simp [confB, hp, hq, c1, c2, c3]))
          · refine Ev.neg c2 ?_
            by_cases c3 : p.f2 = q.f2
            · exact Ev.pos c3 (Ev.ret (by simp [confB, hp, hq, c1, c2, c3]))
            · refine Ev.neg c3 ?_
              by_cases c4 : p.f3 = q.f3
              · exact Ev.pos c4 (Ev.ret (by simp [confB, hp, hq, c1, c2, c3, c4]))
              · refine Ev.neg c4 ?_
                obtain ⟨a, b, ha, hb⟩ := isPathB_arms hp
                obtain ⟨c, d, hc, hd⟩ := isPathB_arms hq
                have e : confB p q = crossB (2 * (a.val : Int)) (2 * (b.val : Int) + 1) (2 * (c.val : Int)) (2 * (d.val : Int) + 1) := by
                  simp [confB, hp, hq, c1, c2, c3, c4]
                  rw [ha, hb, hc, hd]
                rw [e, ha, hb, hc, hd]
                rw [ha, hc] at c3
                rw [hb, hd] at c4
                refine Ev.call (spec_inPlace a) ?_
                refine Ev.call (spec_outPlace b) ?_
                refine Ev.call (spec_inPlace c) ?_
                refine Ev.call (spec_outPlace d) ?_
                refine Ev.bind (Ev.of (fun k => spec_Interleave.mono _ _ _ _ k) (inter_spec a b c d (fun h => c3 (by rw [h])) (fun h => c4 (by rw [h])))) ?_
                exact Ev.ret rfl
      by_cases c1 : p.f1 = 2
      · refine Ev.pos c1 ?_
        by_cases c2 : q.f1 = 2
        · simp only [c2, beq_self_eq_true]
          have := stop true (by simp [confB, c1, c2])
          simpa only [c2] using this
        · have e : (q.f1 == 2) = false := by simpa using c2
          simp only [e]
          exact rest (fun h => c2 h.2)
      · refine Ev.neg c1 ?_
        exact rest (fun h => c1 h.1)
theorem impl_conf (p q : S36) : Ev (fun k => impl_Conflict.f k p.f0 p.f1 p.f2 p.f3 q.f0 q.f1 q.f2 q.f3) (confB p q) := by
  refine Ev.call (impl_isPath p) ?_
  have stop : ∀ b : Bool, confB p q = false → Ev (fun k => impl_Conflict.j0 k true p.f0 p.f1 p.f2 p.f3 q.f0 q.f1 q.f2 q.f3) (confB p q) := by
    intro _ h
    refine Ev.step (fun k => rfl) ?_
    exact Ev.ret h.symm
  cases hp : isPathB p with
  | false =>
    refine Ev.neg (by simp) ?_
    exact stop true (by simp [confB, hp])
  | true =>
    refine Ev.pos (by rfl) ?_
    refine Ev.call (impl_isPath q) ?_
    cases hq : isPathB q with
    | false =>
      refine Ev.neg (by simp) ?_
      exact stop true (by simp [confB, hq])
    | true =>
      refine Ev.pos (by rfl) ?_
      have rest : ¬ (p.f1 = 2 ∧ q.f1 = 2) → Ev (fun k => impl_Conflict.j0 k false p.f0 p.f1 p.f2 p.f3 q.f0 q.f1 q.f2 q.f3) (confB p q) := by
        intro hw
        refine Ev.step (fun k => rfl) ?_
        by_cases c1 : p.f1 = 2
        · have c2 : ¬ q.f1 = 2 := fun h => hw ⟨c1, h⟩
          refine Ev.pos c1 ?_
          by_cases c3 : q.f2 = p.f2
          · exact Ev.pos c3 (Ev.ret (by simp [confB, hp, hq, c1, c2, c3]))
          · exact Ev.neg c3 (Ev.ret (by simp [confB, hp, hq, c1, c2, c3]))
        · refine Ev.neg c1 ?_
          by_cases c2 : q.f1 = 2
          · refine Ev.pos c2 ?_
            by_cases c3 : p.f2 = q.f2
            · exact Ev.pos c3 (Ev.ret (by simp [confB, hp, hq, c1, c2, c3]))
            · exact Ev.neg c3 (Ev.ret (by simp [confB, hp, hq, c1, c2, c3]))
          · refine Ev.neg c2 ?_
            by_cases c3 : p.f2 = q.f2
            · refine Ev.pos c3 ?_
              obtain ⟨a, b, ha, hb⟩ := isPathB_arms hp
              obtain ⟨c, d, hc, hd⟩ := isPathB_arms hq
              have e : confB p q = false := by simp [confB, hp, hq, c1, c2, c3]
              rw [ha, hc] at c3
              have e1 : a = c := Fin.ext (by omega)
              rw [e, ha, hb, hc, hd]
              refine Ev.call (impl_inPlace a) ?_
              refine Ev.call (impl_outPlace b) ?_
              refine Ev.call (impl_inPlace c) ?_
              refine Ev.call (impl_outPlace d) ?_
              refine Ev.bind (Ev.of (fun k => impl_Interleave.mono _ _ _ _ k) (inter_impl a b c d)) ?_
              exact Ev.ret (by simp [e1])
            · refine Ev.neg c3 ?_
              by_cases c4 : p.f3 = q.f3
              · exact Ev.pos c4 (Ev.ret (by simp [confB, hp, hq, c1, c2, c3, c4]))
              · refine Ev.neg c4 ?_
                obtain ⟨a, b, ha, hb⟩ := isPathB_arms hp
                obtain ⟨c, d, hc, hd⟩ := isPathB_arms hq
                have e : confB p q = crossB (2 * (a.val : Int)) (2 * (b.val : Int) + 1) (2 * (c.val : Int)) (2 * (d.val : Int) + 1) := by
                  simp [confB, hp, hq, c1, c2, c3, c4]
                  rw [ha, hb, hc, hd]
                rw [e, ha, hb, hc, hd]
                rw [ha, hc] at c3
                rw [hb, hd] at c4
                refine Ev.call (impl_inPlace a) ?_
                refine Ev.call (impl_outPlace b) ?_
                refine Ev.call (impl_inPlace c) ?_
                refine Ev.call (impl_outPlace d) ?_
                refine Ev.bind (Ev.of (fun k => impl_Interleave.mono _ _ _ _ k) (inter_impl a b c d)) ?_
                have d1 : a ≠ c := fun h => c3 (by rw [h])
                have d2 : b ≠ d := fun h => c4 (by rw [h])
                exact Ev.ret (by simp [d1, d2])
      by_cases c1 : p.f1 = 2
      · refine Ev.pos c1 ?_
        by_cases c2 : q.f1 = 2
        · simp only [c2, beq_self_eq_true]
          have := stop true (by simp [confB, c1, c2])
          simpa only [c2] using this
        · have e : (q.f1 == 2) = false := by simpa using c2
          simp only [e]
          exact rest (fun h => c2 h.2)
      · refine Ev.neg c1 ?_
        exact rest (fun h => c1 h.1)
end Go.Proofs.Ytkigipimdodliaa.X

namespace Go.Proofs.Ytkigipimdodliaa.X
open Go.RowKit Go.Proofs.PrintWords Go.Proofs.PrintLast Go.Proofs.PrintMore
set_option linter.unusedVariables false
set_option linter.unusedSimpArgs false
theorem up64' {i n : Nat} (hi : i < n) (hn : n ≤ 4611686018427387904) : wrap64 ((i : Int) + 1) = ((i + 1 : Nat) : Int) := by rw [w64 (by omega) (by omega)]; simp
/-! Conflict laws -/
theorem crossB_symm : ∀ a b c d : Fin 4, a ≠ c → b ≠ d → crossB (2 * (a.val : Int)) (2 * (b.val : Int) + 1) (2 * (c.val : Int)) (2 * (d.val : Int) + 1) = crossB (2 * (c.val : Int)) (2 * (d.val : Int) + 1) (2 * (a.val : Int)) (2 * (b.val : Int) + 1) := by decide +kernel
theorem confB_self (p : S36) : confB p p = false := by
  simp only [confB]
  by_cases h : p.f1 = 2 <;> simp [h]
theorem confB_symm (p q : S36) : confB p q = confB q p := by
  cases hp : isPathB p with
  | false => simp [confB, hp]
  | true =>
    cases hq : isPathB q with
    | false => simp [confB, hp, hq]
    | true =>
      by_cases c1 : p.f1 = 2
      · by_cases c2 : q.f1 = 2
        · simp [confB, c1, c2]
        · simp [confB, hp, hq, c1, c2]
      · by_cases c2 : q.f1 = 2
        · simp [confB, hp, hq, c1, c2]
        · by_cases c3 : p.f2 = q.f2
          · simp [confB, hp, hq, c1, c2, c3]
          · have c3' : ¬ q.f2 = p.f2 := fun h => c3 h.symm
            by_cases c4 : p.f3 = q.f3
            · simp [confB, hp, hq, c1, c2, c3, c3', c4]
            · have c4' : ¬ q.f3 = p.f3 := fun h => c4 h.symm
              obtain ⟨a, b, ha, hb⟩ := isPathB_arms hp
              obtain ⟨c, d, hc, hd⟩ := isPathB_arms hq
              simp only [confB, hp, hq, c1, c2, c3, c4, c3', c4', Bool.and_self, decide_false, Bool.not_false, if_false, Bool.true_and]
              rw [ha, hb, hc, hd]
              rw [ha, hc] at c3
              rw [hb, hd] at c4
              exact crossB_symm a b c d (fun h => c3 (by rw [h])) (fun h => c4 (by rw [h]))
/-! Ascending rows -/
def Asc (l : List S36) : Prop := l.Pairwise (fun p q => p.f0 < q.f0)
theorem pathsFrom_asc : ∀ (b : Int) (l : List S36), pathsFrom b l = true → Asc l ∧ ∀ p ∈ l, b < p.f0
  | _, [], _ => ⟨List.Pairwise.nil, fun _ h => by cases h⟩
  | b, p :: r, h => by
    simp only [pathsFrom, Bool.and_eq_true, decide_eq_true_eq] at h
    obtain ⟨h1, h2⟩ := pathsFrom_asc p.f0 r h.2
    refine ⟨List.pairwise_cons.2 ⟨h2, h1⟩, fun q hq => ?_⟩
    rcases List.mem_cons.1 hq with rfl | hq
    · exact h.1.2
    · have := h2 q hq
      have := h.1.2
      omega
theorem Asc.inj {l : List S36} (h : Asc l) {p q : S36} (hp : p ∈ l) (hq : q ∈ l) (e : p.f0 = q.f0) : p = q := by
  obtain ⟨i, hi, rfl⟩ := List.getElem_of_mem hp
  obtain ⟨j, hj, rfl⟩ := List.getElem_of_mem hq
  have hp := List.pairwise_iff_getElem.1 h
  rcases Nat.lt_trichotomy i j with h1 | h1 | h1
  · have := hp i j hi hj h1
    omega
  · subst h1; rfl
  · have := hp j i hj hi h1
    omega
theorem Asc.idx {l : List S36} (h : Asc l) {i j : Nat} (hi : i < l.length) (hj : j < l.length) : l[i].f0 < l[j].f0 ↔ i < j := by
  have hp := List.pairwise_iff_getElem.1 h
  constructor
  · intro h1
    rcases Nat.lt_trichotomy i j with h2 | h2 | h2
    · exact h2
    · subst h2; omega
    · have := hp j i hj hi h2; omega
  · intro h1
    exact hp i j hi hj h1
def ids (s : List S36) : List Int := s.map (·.f0)
/-! FindPath -/
theorem find_l0 (l : List S36) (hn : l.length ≤ 4611686018427387904) (hA : Asc l) {j : Nat} (hj : j < l.length) (d : Nat) : ∀ i, i + d = j → Ev (fun k => spec_FindPath.l0 k l l[j].f0 (i : Int)) (j : Int) := by
  induction d with
  | zero =>
    intro i hi
    obtain rfl : i = j := by omega
    refine Ev.step (fun k => rfl) ?_
    refine Ev.pos (by omega) ?_
    refine Ev.pos (by omega) ?_
    rw [rdP_at l hj]
    exact Ev.pos rfl (Ev.ret rfl)
  | succ d ih =>
    intro i hi
    have hlt : i < l.length := by omega
    refine Ev.step (fun k => rfl) ?_
    refine Ev.pos (by omega) ?_
    refine Ev.pos (by omega) ?_
    rw [rdP_at l hlt]
    refine Ev.neg ?_ ?_
    · have := (hA.idx hlt hj).2 (by omega)
      omega
    rw [up64' hlt hn]
    exact ih (i + 1) (by omega)
theorem find_ev (l : List S36) (hn : l.length ≤ 4611686018427387904) (hA : Asc l) {j : Nat} (hj : j < l.length) : Ev (fun k => spec_FindPath.f k l l[j].f0) (j : Int) := find_l0 l hn hA hj j 0 (by omega)
theorem find_mem (l : List S36) (hn : l.length ≤ 4611686018427387904) (hA : Asc l) {p : S36} (hp : p ∈ l) : ∃ j : Nat, ∃ hj : j < l.length, l[j] = p ∧ Ev (fun k => spec_FindPath.f k l p.f0) (j : Int) := by
  obtain ⟨j, hj, rfl⟩ := List.getElem_of_mem hp
  exact ⟨j, hj, rfl, find_ev l hn hA hj⟩
theorem ids_at (s : List S36) {i : Nat} (h : i < s.length) : rd (ids s) (i : Int) = s[i].f0 := by
  rw [rd_at (ids s) (by simpa [ids] using h)]
  simp [ids]
theorem ids_length (s : List S36) : (ids s).length = s.length := by simp [ids]
/-! IsTogether -/
/-- No two of the row conflict. -/
def togB : List S36 → Bool
  | [] => true
  | p :: r => r.all (fun q => !confB q p) && togB r
theorem togB_append (s t : List S36) : togB (s ++ t) = (togB s && togB t && s.all (fun p => t.all (fun q => !confB q p))) := by
  induction s with
  | nil => simp [togB]
  | cons p r ih =>
    simp only [List.cons_append, togB, List.all_append, ih, List.all_cons]
    generalize (r.all fun q => !confB q p) = a
    generalize (t.all fun q => !confB q p) = b
    generalize togB r = c
    generalize togB t = d
    generalize (r.all fun p => t.all fun q => !confB q p) = e
    cases a <;> cases b <;> cases c <;> cases d <;> cases e <;> rfl
theorem all_and2 {α : Type} (f g : α → Bool) : ∀ s : List α, (s.all fun p => f p && g p) = (s.all f && s.all g)
  | [] => rfl
  | p :: r => by
    simp only [List.all_cons, all_and2 f g r]
    generalize f p = a
    generalize g p = b
    generalize r.all f = c
    generalize r.all g = d
    cases a <;> cases b <;> cases c <;> cases d <;> rfl
theorem tog_l1 (l s : List S36) (hn : l.length ≤ 4611686018427387904) (hA : Asc l) (hs : ∀ p ∈ s, p ∈ l) (hm : s.length ≤ 4611686018427387904) {j : Nat} (hj : j < l.length) {i : Nat} (hi : i < s.length) (hji : l[j] = s[i]) {b : Bool}
    (hgo : Ev (fun k => spec_IsTogether.l0 k l (ids s) (wrap64 ((i : Int) + 1))) b) (d : Nat) : ∀ m, m + d = i →
    Ev (fun k => spec_IsTogether.l1 k l (ids s) (i : Int) (j : Int) (m : Int)) ((((s.take i).drop m).all fun q => !confB s[i] q) && b) := by
  induction d with
  | zero =>
    intro m hmi
    refine Ev.step (fun k => rfl) ?_
    refine Ev.neg (by omega) ?_
    refine Ev.cast hgo ?_
    rw [List.drop_eq_nil_of_le (by simp; omega)]
    simp
  | succ d ih =>
    intro m hmi
    have hlt : m < s.length := by omega
    refine Ev.step (fun k => rfl) ?_
    refine Ev.pos (by omega) ?_
    refine Ev.pos (by omega) ?_
    refine Ev.pos (by omega) ?_
    refine Ev.pos (by omega) ?_
    refine Ev.pos (by rw [ids_length]; omega) ?_
    rw [ids_at s hlt]
    obtain ⟨g, hg, hgm, hf⟩ := find_mem l hn hA (hs s[m] (List.getElem_mem hlt))
    refine Ev.bind hf ?_
    refine Ev.pos (by omega) ?_
    refine Ev.pos (by omega) ?_
    rw [rdP_at l hj, rdP_at l hg, hji, hgm]
    refine Ev.bind (spec_conf s[i] s[m]) ?_
    have hd : (s.take i).drop m = s[m] :: (s.take i).drop (m + 1) := by
      rw [List.drop_eq_getElem_cons (by simp; omega)]
      simp
    rw [hd]
    simp only [List.all_cons]
    cases hc : confB s[i] s[m] with
    | true => exact Ev.pos rfl (Ev.ret (by simp))
    | false =>
      refine Ev.neg (by simp) ?_
      rw [up64' hlt hm]
      exact Ev.cast (ih (m + 1) (by omega)) (by simp)
theorem tog_l0 (l s : List S36) (hp : pathsB l = true) (hA : Asc l) (hs : ∀ p ∈ s, p ∈ l) (hS : Asc s) (hm : s.length ≤ 4611686018427387904) (d : Nat) : ∀ i, i + d = s.length →
    Ev (fun k => spec_IsTogether.l0 k l (ids s) (i : Int)) (togB (s.drop i) && (s.take i).all (fun p => (s.drop i).all (fun q => !confB q p))) := by
  have hn : l.length ≤ 4611686018427387904 := by
    simp only [pathsB, Bool.and_eq_true, decide_eq_true_eq] at hp
    omega
  induction d with
  | zero =>
    intro i hi
    refine Ev.step (fun k => rfl) ?_
    refine Ev.neg (by rw [ids_length]; omega) ?_
    refine Ev.bind (spec_arePaths l hn) ?_
    refine Ev.ret ?_
    rw [hp, List.drop_eq_nil_of_le (by omega)]
    simp [togB]
  | succ d ih =>
    intro i hi
    have hlt : i < s.length := by omega
    refine Ev.step (fun k => rfl) ?_
    refine Ev.pos (by rw [ids_length]; omega) ?_
    refine Ev.pos (by omega) ?_
    rw [ids_at s hlt]
    obtain ⟨g, hg, hgm, hf⟩ := find_mem l hn hA (hs s[i] (List.getElem_mem hlt))
    refine Ev.bind hf ?_
    refine Ev.neg (by omega) ?_
    have go := ih (i + 1) (by omega)
    rw [← up64' hlt hm] at go
    have key : Ev (fun k => spec_IsTogether.j1 k l (ids s) (i : Int) (g : Int) false) (togB (s.drop i) && (s.take i).all (fun p => (s.drop i).all (fun q => !confB q p))) := by
      refine Ev.step (fun k => rfl) ?_
      refine Ev.cast (tog_l1 l s hn hA hs hm hg hlt hgm go i 0 (by omega)) ?_
      rw [List.drop_zero, List.drop_eq_getElem_cons hlt, List.take_add_one]
      simp only [List.getElem?_eq_getElem hlt, Option.toList_some, List.all_append, togB, List.all_cons, List.all_nil, Bool.and_true]
      rw [all_and2 (fun p => !confB s[i] p) (fun p => (s.drop (i + 1)).all fun q => !confB q p)]
      generalize ((s.take i).all fun q => !confB s[i] q) = a
      generalize (togB (s.drop (i + 1))) = b
      generalize ((s.take i).all fun p => (s.drop (i + 1)).all fun q => !confB q p) = c
      generalize ((s.drop (i + 1)).all fun q => !confB q s[i]) = e
      cases a <;> cases b <;> cases c <;> cases e <;> rfl
    by_cases hz : i = 0
    · subst hz
      exact Ev.neg (by omega) key
    · refine Ev.pos (by omega) ?_
      have hs2 : wrap64 ((i : Int) - 1) = ((i - 1 : Nat) : Int) := by rw [w64 (by omega) (by omega)]; omega
      rw [hs2]
      refine Ev.pos (by omega) ?_
      refine Ev.pos (by rw [ids_length]; omega) ?_
      rw [ids_at s (show i - 1 < s.length by omega)]
      have := (hS.idx (show i - 1 < s.length by omega) hlt).2 (by omega)
      rw [decide_eq_false (by omega)]
      exact key
theorem tog_ev (l s : List S36) (hp : pathsB l = true) (hA : Asc l) (hs : ∀ p ∈ s, p ∈ l) (hS : Asc s) (hm : s.length ≤ 4611686018427387904) : Ev (fun k => spec_IsTogether.f k l (ids s)) (togB s) :=
  Ev.cast (tog_l0 l s hp hA hs hS hm s.length 0 (by omega)) (by simp)
end Go.Proofs.Ytkigipimdodliaa.X

namespace Go.Proofs.Ytkigipimdodliaa.X
open Go.RowKit Go.Proofs.PrintWords Go.Proofs.PrintLast Go.Proofs.PrintMore
set_option linter.unusedVariables false
set_option linter.unusedSimpArgs false
deriving instance DecidableEq for S36
theorem tog_iff (s : List S36) : togB s = true ↔ ∀ p ∈ s, ∀ q ∈ s, confB p q = false := by
  induction s with
  | nil => simp [togB]
  | cons p r ih =>
    simp only [togB, Bool.and_eq_true, List.all_eq_true, ih, Bool.not_eq_true']
    constructor
    · rintro ⟨h1, h2⟩ a ha b hb
      rcases List.mem_cons.1 ha with ea | ha1
      · rcases List.mem_cons.1 hb with eb | hb1
        · rw [ea, eb]; exact confB_self _
        · rw [ea, confB_symm]; exact h1 b hb1
      · rcases List.mem_cons.1 hb with eb | hb1
        · rw [eb]; exact h1 a ha1
        · exact h2 a ha1 b hb1
    · intro h
      exact ⟨fun q hq => h q (List.mem_cons_of_mem _ hq) p List.mem_cons_self, fun a ha b hb => h a (List.mem_cons_of_mem _ ha) b (List.mem_cons_of_mem _ hb)⟩
theorem has_l0 (l : List Int) (v : Int) (hn : l.length ≤ 4611686018427387904) (d : Nat) : ∀ i, i + d = l.length → Ev (fun k => spec_l6Has.l0 k l v (i : Int)) (decide (v ∈ l.drop i)) := by
  induction d with
  | zero =>
    intro i hi
    refine Ev.step (fun k => rfl) ?_
    refine Ev.neg (by omega) (Ev.ret ?_)
    rw [List.drop_eq_nil_of_le (by omega)]
    simp
  | succ d ih =>
    intro i hi
    have hlt : i < l.length := by omega
    refine Ev.step (fun k => rfl) ?_
    refine Ev.pos (by omega) ?_
    refine Ev.pos (by omega) ?_
    rw [rd_at l hlt, List.drop_eq_getElem_cons hlt]
    by_cases h : l[i] = v
    · exact Ev.pos h (Ev.ret (by simp [h]))
    · refine Ev.neg h ?_
      rw [up64' hlt hn]
      refine Ev.cast (ih (i + 1) (by omega)) ?_
      have h' : ¬ v = l[i] := fun e => h e.symm
      simp only [List.mem_cons, h', false_or]
theorem has_ev (l s : List S36) (hA : Asc l) (hs : ∀ p ∈ s, p ∈ l) (hn : s.length ≤ 4611686018427387904) {p : S36} (hp : p ∈ l) : Ev (fun k => spec_l6Has.f k (ids s) p.f0) (decide (p ∈ s)) := by
  refine Ev.cast (has_l0 (ids s) p.f0 (by rw [ids_length]; omega) s.length 0 (by rw [ids_length]; omega)) ?_
  rw [List.drop_zero]
  refine decide_eq_decide.2 ⟨fun h => ?_, fun h => List.mem_map_of_mem h⟩
  obtain ⟨q, hq, e⟩ := List.mem_map.1 h
  rw [← hA.inj (hs q hq) hp e]
  exact hq
def ins (p : S36) : List S36 → List S36
  | [] => [p]
  | q :: r => if q.f0 < p.f0 then q :: ins p r else p :: q :: r
def insI (v : Int) : List Int → List Int
  | [] => [v]
  | a :: r => if a < v then a :: insI v r else v :: a :: r
theorem ids_ins (p : S36) : ∀ s, ids (ins p s) = insI p.f0 (ids s)
  | [] => rfl
  | q :: r => by
    have := ids_ins p r
    simp only [ids, ins, insI, List.map_cons] at this ⊢
    split
    · simp [this]
    · simp
theorem put_l0 (l : List Int) (v : Int) (hn : l.length ≤ 1000) (hv : v ∉ l) (d : Nat) : ∀ i, i + d = l.length → Ev (fun k => spec_l6Put.l0 k l v (i : Int)) (l.take i ++ insI v (l.drop i)) := by
  induction d with
  | zero =>
    intro i hi
    refine Ev.step (fun k => rfl) ?_
    refine Ev.neg (by omega) ?_
    refine Ev.call rfl ?_
    refine Ev.pos (by omega) ?_
    refine Ev.pos (by omega) ?_
    refine Ev.pos (by simp; omega) ?_
    refine Ev.call rfl ?_
    refine Ev.call rfl ?_
    refine Ev.pos (by simp; omega) ?_
    refine Ev.call rfl ?_
    refine Ev.pos (by simp; omega) ?_
    refine Ev.ret ?_
    rw [Int.toNat_natCast, List.drop_eq_nil_of_le (by omega), List.take_of_length_le (by omega)]
    simp [insI]
  | succ d ih =>
    intro i hi
    have hlt : i < l.length := by omega
    refine Ev.step (fun k => rfl) ?_
    refine Ev.pos (by omega) ?_
    refine Ev.pos (by omega) ?_
    rw [rd_at l hlt, List.drop_eq_getElem_cons hlt]
    by_cases h : l[i] < v
    · refine Ev.pos h ?_
      rw [up64' hlt (by omega)]
      refine Ev.cast (ih (i + 1) (by omega)) ?_
      simp only [insI, if_pos h, List.take_add_one, List.getElem?_eq_getElem hlt, Option.toList_some, List.append_assoc, List.singleton_append]
    · refine Ev.neg h ?_
      refine Ev.neg (fun e => hv (e ▸ List.getElem_mem hlt)) ?_
      refine Ev.call rfl ?_
      refine Ev.pos (by omega) ?_
      refine Ev.pos (by simp; omega) ?_
      refine Ev.call rfl ?_
      refine Ev.call rfl ?_
      refine Ev.pos (by simp; omega) ?_
      refine Ev.call rfl ?_
      refine Ev.pos (by simp; omega) ?_
      refine Ev.ret ?_
      rw [Int.toNat_natCast]
      simp only [insI, if_neg h, List.nil_append, List.append_assoc, List.singleton_append, List.drop_eq_getElem_cons hlt]
theorem put_ev (l s : List S36) (hA : Asc l) (hs : ∀ p ∈ s, p ∈ l) (hn : s.length ≤ 1000) {p : S36} (hp : p ∈ l) (hps : p ∉ s) : Ev (fun k => spec_l6Put.f k (ids s) p.f0) (ids (ins p s)) := by
  refine Ev.cast (put_l0 (ids s) p.f0 (by rw [ids_length]; omega) (fun h => ?_) s.length 0 (by rw [ids_length]; omega)) ?_
  · obtain ⟨q, hq, e⟩ := List.mem_map.1 h
    exact hps (hA.inj (hs q hq) hp e ▸ hq)
  · rw [ids_ins]
    rfl
theorem ins_mem (p : S36) : ∀ (s : List S36) (q : S36), q ∈ ins p s ↔ q = p ∨ q ∈ s
  | [], q => by simp [ins]
  | a :: r, q => by
    simp only [ins]
    split
    · simp only [List.mem_cons, ins_mem p r q]
      constructor
      · rintro (h | h | h) <;> simp [h]
      · rintro (h | h | h) <;> simp [h]
    · simp
theorem ins_length (p : S36) : ∀ s, (ins p s).length = s.length + 1
  | [] => rfl
  | a :: r => by
    simp only [ins]
    split
    · simp [ins_length p r]
    · simp
theorem ins_asc (p : S36) : ∀ s, Asc s → (∀ q ∈ s, q.f0 ≠ p.f0) → Asc (ins p s)
  | [], _, _ => List.pairwise_singleton _ _
  | a :: r, h, hne => by
    have h' := List.pairwise_cons.1 h
    simp only [ins]
    split
    · rename_i hlt
      refine List.pairwise_cons.2 ⟨fun q hq => ?_, ins_asc p r h'.2 (fun q hq => hne q (List.mem_cons_of_mem _ hq))⟩
      rcases (ins_mem p r q).1 hq with rfl | hq
      · exact hlt
      · exact h'.1 q hq
    · rename_i hlt
      have h1 := hne a List.mem_cons_self
      refine List.pairwise_cons.2 ⟨fun q hq => ?_, h⟩
      rcases List.mem_cons.1 hq with rfl | hq
      · omega
      · have := h'.1 q hq
        omega
/-- A row that takes in whatever agrees with all of it. -/
def fullB (l s : List S36) : Bool := l.all fun p => (decide (p ∈ s)) == s.all (fun q => !confB p q)
theorem full_tog {l s : List S36} (hs : ∀ p ∈ s, p ∈ l) (h : fullB l s = true) : togB s = true := by
  rw [tog_iff]
  intro p hp q hq
  have h1 := List.all_eq_true.1 h p (hs p hp)
  simp only [hp, decide_true, beq_iff_eq] at h1
  simpa using List.all_eq_true.1 h1.symm q hq
theorem tog_ins {s : List S36} (ht : togB s = true) (p : S36) : togB (ins p s) = s.all (fun q => !confB p q) := by
  rw [Bool.eq_iff_iff, tog_iff, List.all_eq_true]
  rw [tog_iff] at ht
  constructor
  · intro h q hq
    simpa using h p ((ins_mem p s p).2 (.inl rfl)) q ((ins_mem p s q).2 (.inr hq))
  · intro h a ha b hb
    rcases (ins_mem p s a).1 ha with ea | ha1
    · rcases (ins_mem p s b).1 hb with eb | hb1
      · rw [ea, eb]; exact confB_self _
      · rw [ea]; simpa using h b hb1
    · rcases (ins_mem p s b).1 hb with eb | hb1
      · rw [eb, confB_symm]; simpa using h a ha1
      · exact ht a ha1 b hb1
theorem isFull_l0 (l s : List S36) (hp : pathsB l = true) (hA : Asc l) (hs : ∀ p ∈ s, p ∈ l) (hS : Asc s) (hm : s.length ≤ 900) (ht : togB s = true) (d : Nat) : ∀ i, i + d = l.length →
    Ev (fun k => spec_IsFullStage.l0 k l (ids s) (i : Int)) ((l.drop i).all fun p => (decide (p ∈ s)) == s.all (fun q => !confB p q)) := by
  have hn : l.length ≤ 4611686018427387904 := by
    simp only [pathsB, Bool.and_eq_true, decide_eq_true_eq] at hp
    omega
  induction d with
  | zero =>
    intro i hi
    refine Ev.step (fun k => rfl) ?_
    refine Ev.neg (by omega) ?_
    refine Ev.bind (tog_ev l s hp hA hs hS (by omega)) ?_
    refine Ev.ret ?_
    rw [ht, List.drop_eq_nil_of_le (by omega)]
    rfl
  | succ d ih =>
    intro i hi
    have hlt : i < l.length := by omega
    have hmem : l[i] ∈ l := List.getElem_mem hlt
    refine Ev.step (fun k => rfl) ?_
    refine Ev.pos (by omega) ?_
    refine Ev.pos (by omega) ?_
    rw [rdP_at l hlt, List.drop_eq_getElem_cons hlt]
    refine Ev.bind (has_ev l s hA hs (by omega) hmem) ?_
    simp only [List.all_cons]
    have go := ih (i + 1) (by omega)
    rw [← up64' hlt hn] at go
    by_cases hin : l[i] ∈ s
    · rw [decide_eq_true hin]
      refine Ev.pos rfl ?_
      refine Ev.cast go ?_
      have h1 : (s.all fun q => !confB l[i] q) = true := List.all_eq_true.2 (fun q hq => by simp [(tog_iff s).1 ht _ hin q hq])
      rw [h1]
      simp
    · rw [decide_eq_false hin]
      refine Ev.neg (by simp) ?_
      refine Ev.bind (put_ev l s hA hs (by omega) hmem hin) ?_
      have hsi : ∀ p ∈ ins l[i] s, p ∈ l := fun p hp => by
        rcases (ins_mem _ _ p).1 hp with rfl | h
        · exact hmem
        · exact hs p h
      have hne : ∀ q ∈ s, q.f0 ≠ l[i].f0 := fun q hq e => hin (hA.inj (hs q hq) hmem e ▸ hq)
      refine Ev.bind (tog_ev l (ins l[i] s) hp hA hsi (ins_asc _ s hS hne) (by rw [ins_length]; omega)) ?_
      rw [tog_ins ht]
      cases hc : (s.all fun q => !confB l[i] q) with
      | true => exact Ev.pos rfl (Ev.ret (by simp))
      | false =>
        refine Ev.neg (by simp) ?_
        exact Ev.cast go (by simp)
theorem isFull_ev (l s : List S36) (hp : pathsB l = true) (hA : Asc l) (hs : ∀ p ∈ s, p ∈ l) (hS : Asc s) (hm : s.length ≤ 900) (ht : togB s = true) : Ev (fun k => spec_IsFullStage.f k l (ids s)) (fullB l s) :=
  isFull_l0 l s hp hA hs hS hm ht l.length 0 (by omega)
/-! The search -/
def subs : List S36 → List (List S36)
  | [] => [[]]
  | p :: r => (subs r).map (p :: ·) ++ subs r
theorem subs_sub : ∀ (l u : List S36), u ∈ subs l → u.Sublist l
  | [], u, h => by
    rw [List.mem_singleton.1 h]
    exact List.Sublist.refl _
  | p :: r, u, h => by
    rcases List.mem_append.1 h with h | h
    · obtain ⟨v, hv, rfl⟩ := List.mem_map.1 h
      exact (subs_sub r v hv).cons_cons p
    · exact (subs_sub r u h).cons p
def fullNE (l s : List S36) : Bool := fullB l s && !s.isEmpty
def fill (out ys : List (List Int)) : List (List Int) := out ++ ys.take (40 - out.length)
theorem fill_fill (out a b : List (List Int)) : fill (fill out a) b = fill out (a ++ b) := by
  simp only [fill, List.append_assoc, List.take_append, List.length_append, List.length_take]
  rw [show 40 - (out.length + min (40 - out.length) a.length) = 40 - out.length - a.length by omega]
theorem fill_nil (out : List (List Int)) : fill out [] = out := by simp [fill]
theorem search_ev (l : List S36) (hp : pathsB l = true) (hA : Asc l) (d : Nat) : ∀ (i : Nat) (s : List S36) (out : List (List Int)), i + d = l.length → s.Sublist (l.take i) → togB s = true →
    Ev (fun k => spec_l6Search.f k l (i : Int) (ids s) out) (fill out ((((subs (l.drop i)).map (s ++ ·)).filter (fullNE l)).map ids)) := by
  have hn : l.length ≤ 12 := by
    simp only [pathsB, Bool.and_eq_true, decide_eq_true_eq] at hp
    exact hp.1
  induction d with
  | zero =>
    intro i s out hi hsub ht
    have hsl : s.Sublist l := hsub.trans (List.take_sublist _ _)
    have hlen := hsl.length_le
    refine Ev.step (fun k => rfl) ?_
    refine Ev.pos (by omega) ?_
    rw [List.drop_eq_nil_of_le (by omega)]
    simp only [subs, List.map_cons, List.map_nil, List.append_nil]
    by_cases hz : s.length = 0
    · have : s = [] := List.eq_nil_of_length_eq_zero hz
      subst this
      refine Ev.neg (by simp [ids]) (Ev.ret ?_)
      simp [fullNE, fill_nil]
    · refine Ev.pos (by rw [ids_length]; omega) ?_
      have hne : s.isEmpty = false := by cases s with | nil => exact absurd rfl hz | cons _ _ => rfl
      by_cases h40 : (out.length : Int) < 40
      · refine Ev.pos h40 ?_
        refine Ev.bind (isFull_ev l s hp hA (fun p h => hsl.subset h) (hA.sublist hsl) (by omega) ht) ?_
        cases hf : fullB l s with
        | true =>
          refine Ev.pos rfl ?_
          refine Ev.pos (by rw [ids_length]; omega) ?_
          refine Ev.ret ?_
          simp only [fullNE, hf, hne, List.filter_cons, Bool.not_false, Bool.and_self, if_true, List.filter_nil, List.map_cons, List.map_nil, fill]
          rw [List.take_of_length_le (by simp; omega)]
        | false =>
          refine Ev.neg (by simp) (Ev.ret ?_)
          simp [fullNE, hf, fill_nil]
      · refine Ev.neg h40 (Ev.ret ?_)
        rw [fill, show 40 - out.length = 0 by omega]
        simp
  | succ d ih =>
    intro i s out hi hsub ht
    have hlt : i < l.length := by omega
    have hsl : s.Sublist l := hsub.trans (List.take_sublist _ _)
    have hlen := hsl.length_le
    refine Ev.step (fun k => rfl) ?_
    refine Ev.neg (by omega) ?_
    refine Ev.pos (by omega) ?_
    refine Ev.pos (by omega) ?_
    refine Ev.pos (by rw [ids_length]; omega) ?_
    rw [rdP_at l hlt, List.drop_eq_getElem_cons hlt, up64' hlt (by omega)]
    have e1 : ids s ++ [l[i].f0] = ids (s ++ [l[i]]) := by simp [ids]
    rw [e1]
    have hsub2 : (s ++ [l[i]]).Sublist (l.take (i + 1)) := by
      rw [List.take_add_one, List.getElem?_eq_getElem hlt]
      exact hsub.append (List.Sublist.refl _)
    have hsub1 : s.Sublist (l.take (i + 1)) := (List.sublist_append_left s [l[i]]).trans hsub2
    have hsl2 := hsub2.trans (List.take_sublist _ _)
    refine Ev.bind (tog_ev l (s ++ [l[i]]) hp hA (fun p h => hsl2.subset h) (hA.sublist hsl2) (by simp; omega)) ?_
    simp only [subs, List.map_append, List.filter_append, List.map_map]
    have e2 : ((s ++ ·) ∘ (l[i] :: ·)) = ((s ++ [l[i]]) ++ ·) := by
      funext t
      simp
    rw [e2]
    cases hc : togB (s ++ [l[i]]) with
    | true =>
      refine Ev.pos rfl ?_
      refine Ev.bind (ih (i + 1) (s ++ [l[i]]) out (by omega) hsub2 hc) ?_
      refine Ev.cast (ih (i + 1) s _ (by omega) hsub1 ht) ?_
      rw [fill_fill]
    | false =>
      refine Ev.neg (by simp) ?_
      refine Ev.cast (ih (i + 1) s out (by omega) hsub1 ht) ?_
      rw [show ((subs (l.drop (i + 1))).map ((s ++ [l[i]]) ++ ·)).filter (fullNE l) = [] from ?_]
      · simp
      · rw [List.filter_eq_nil_iff]
        intro t htm hft
        obtain ⟨u, hu, rfl⟩ := List.mem_map.1 htm
        have hus := (subs_sub _ u hu).trans (List.drop_sublist (i + 1) l)
        have h1 : fullB l ((s ++ [l[i]]) ++ u) = true := by
          simp only [fullNE, Bool.and_eq_true] at hft
          exact hft.1
        have h2 := full_tog (fun p hpm => by
          rcases List.mem_append.1 hpm with h | h
          · exact hsl2.subset h
          · exact hus.subset h) h1
        rw [togB_append, hc] at h2
        simp at h2
theorem spec_stages (l : List S36) (hn : l.length ≤ 4611686018427387904) :
    Ev (fun k => spec_StagesOf.f k l) (if pathsB l = true then (((subs l).filter (fullNE l)).map ids).take 40 else []) := by
  refine Ev.bind (spec_arePaths l hn) ?_
  cases hp : pathsB l with
  | false => exact Ev.neg (by simp) (Ev.ret rfl)
  | true =>
    refine Ev.pos rfl ?_
    have hA : Asc l := by
      simp only [pathsB, Bool.and_eq_true] at hp
      exact (pathsFrom_asc 0 l hp.2).1
    refine Ev.cast (search_ev l hp hA l.length 0 [] [] (by omega) (List.nil_sublist _) rfl) ?_
    simp [fill]
end Go.Proofs.Ytkigipimdodliaa.X

namespace Go.Proofs.Ytkigipimdodliaa.X
open Go.RowKit Go.Proofs.PrintWords Go.Proofs.PrintLast Go.Proofs.PrintMore
set_option linter.unusedVariables false
set_option linter.unusedSimpArgs false
theorem i64_wrap {n : Int} (h0 : 0 ≤ n) (h1 : n < 2 ^ 62) : IntKind.i64.wrap n = n := by
  rw [IntKind.wrap_i64]
  have : (2 : Int) ^ 62 = 4611686018427387904 := by decide
  omega
theorem andN {a b : Nat} (ha : a < 2 ^ 62) (hb : b < 2 ^ 62) : Go.bits .and .i64 (a : Int) (b : Int) = ((a &&& b : Nat) : Int) := (bits_nat .i64 62 (by decide) (fun n h0 h1 => i64_wrap h0 h1) a b ha hb).1
theorem orN {a b : Nat} (ha : a < 2 ^ 62) (hb : b < 2 ^ 62) : Go.bits .or .i64 (a : Int) (b : Int) = ((a ||| b : Nat) : Int) := (bits_nat .i64 62 (by decide) (fun n h0 h1 => i64_wrap h0 h1) a b ha hb).2
theorem shl1 {j : Nat} (hj : j < 62) : shl .i64 1 (j : Int) = ((2 ^ j : Nat) : Int) := by
  unfold shl
  have h64 : IntKind.i64.bits = 64 := rfl
  rw [Int.toNat_natCast, Nat.min_eq_left (by omega), Int.one_mul]
  rw [i64_wrap]
  · push_cast; rfl
  · exact Int.le_of_lt (Int.pow_pos (by decide))
  · exact_mod_cast Nat.pow_lt_pow_right (by decide : 1 < 2) hj
theorem shrN (m : Nat) {i : Nat} (hi : i ≤ 64) : shr .i64 (m : Int) (i : Int) = ((m / 2 ^ i : Nat) : Int) := by
  unfold shr
  have h64 : IntKind.i64.bits = 64 := rfl
  rw [Int.toNat_natCast, Nat.min_eq_left (by omega)]
  push_cast
  rfl
theorem and1 {m : Nat} (hm : m < 2 ^ 62) : Go.bits .and .i64 (m : Int) 1 = ((m % 2 : Nat) : Int) := by
  have := andN (a := m) (b := 1) hm (by decide)
  rw [Nat.and_one_is_mod] at this
  exact this
/-- Which of the first j paths conflict with p. -/
def maskN (l : List S36) (p : S36) : Nat → Nat
  | 0 => 0
  | j + 1 => if confB p (rd_T36 l (j : Int)) = true then maskN l p j ||| 2 ^ j else maskN l p j
theorem maskN_lt (l : List S36) (p : S36) : ∀ j, maskN l p j < 2 ^ j
  | 0 => by simp [maskN]
  | j + 1 => by
    have h := maskN_lt l p j
    have h2 : 2 ^ j < 2 ^ (j + 1) := Nat.pow_lt_pow_right (by decide) (by omega)
    simp only [maskN]
    split
    · exact Nat.or_lt_two_pow (by omega) h2
    · omega
theorem maskN_bit (l : List S36) (p : S36) (t : Nat) : ∀ j, (maskN l p j).testBit t = (decide (t < j) && confB p (rd_T36 l (t : Int)))
  | 0 => by simp [maskN]
  | j + 1 => by
    have h := maskN_bit l p t j
    simp only [maskN]
    by_cases ht : t = j
    · subst ht
      have h0 : (maskN l p t).testBit t = false := by rw [h]; simp
      cases hc : confB p (rd_T36 l (t : Int)) with
      | true =>
        rw [if_pos rfl, Nat.testBit_or, Nat.testBit_two_pow_self]
        simp
      | false => simp [h0]
    · have e : decide (t < j + 1) = decide (t < j) := decide_eq_decide.2 (by omega)
      rw [e]
      split
      · rw [Nat.testBit_or, h, Nat.testBit_two_pow_of_ne (by omega)]
        simp
      · exact h
theorem set_mid {α : Type} (A : List α) (v u : α) (R : List α) {i : Nat} (h : A.length = i) : (A ++ v :: R).set i u = A ++ u :: R := by subst h; simp
theorem rd_mid (A : List Int) (v : Int) (R : List Int) {i : Nat} (h : A.length = i) : rd (A ++ v :: R) (i : Int) = v := by
  rw [rd_at _ (by simp; omega)]
  subst h
  simp
theorem up64n {i n : Nat} (hi : i < n) (hn : n ≤ 4611686018427387904) : wrap64 ((i : Int) + 1) = ((i + 1 : Nat) : Int) := by rw [w64 (by omega) (by omega)]; simp
theorem impl_l1 (l : List S36) (x3 : List (List Int)) (hn : l.length ≤ 12) (p : S36) (A R : List Int) {i : Nat} (hA : A.length = i) (b : List (List Int))
    (hgo : Ev (fun k => impl_StagesOf.l0 k l x3 (A ++ (maskN l p l.length : Int) :: R) l (l.length : Int) (wrap64 ((i : Int) + 1))) b) (d : Nat) : ∀ j, j + d = l.length →
    Ev (fun k => impl_StagesOf.l1 k l x3 (A ++ (maskN l p j : Int) :: R) (i : Int) l (l.length : Int) (i : Int) l (l.length : Int) (j : Int) p.f0 p.f1 p.f2 p.f3) b := by
  induction d with
  | zero =>
    intro j hj
    obtain rfl : j = l.length := by omega
    refine Ev.step (fun k => rfl) ?_
    exact Ev.neg (by omega) hgo
  | succ d ih =>
    intro j hj
    have hlt : j < l.length := by omega
    refine Ev.step (fun k => rfl) ?_
    refine Ev.pos (by omega) ?_
    refine Ev.pos (by omega) ?_
    refine Ev.pos (by omega) ?_
    refine Ev.bind (impl_conf p (rd_T36 l (j : Int))) ?_
    rw [up64n hlt (by omega)]
    have go := ih (j + 1) (by omega)
    simp only [maskN] at go
    cases hc : confB p (rd_T36 l (j : Int)) with
    | true =>
      rw [if_pos hc] at go
      refine Ev.pos rfl ?_
      refine Ev.pos (by omega) ?_
      refine Ev.pos (by simp; omega) ?_
      have hml := maskN_lt l p j
      have h2 : 2 ^ j ≤ 2 ^ 12 := Nat.pow_le_pow_right (by decide) (by omega)
      have h3 : (2 : Nat) ^ 12 < 2 ^ 62 := by decide
      rw [rd_mid A _ R hA, shl1 (by omega), orN (by omega) (by omega), Int.toNat_natCast, set_mid A _ _ R hA]
      exact go
    | false =>
      rw [if_neg (by rw [hc]; simp)] at go
      refine Ev.neg (by simp) ?_
      exact go
def masks (l : List S36) : List Int := l.map fun p => (maskN l p l.length : Int)
theorem impl_l0 (l : List S36) (x3 : List (List Int)) (hn : l.length ≤ 12) (b : List (List Int)) (hgo : Ev (fun k => impl_StagesOf.l2 k l x3 (masks l) 1) b) (d : Nat) : ∀ i, i + d = l.length →
    Ev (fun k => impl_StagesOf.l0 k l x3 ((masks l).take i ++ List.replicate d 0) l (l.length : Int) (i : Int)) b := by
  have hml : (masks l).length = l.length := by simp [masks]
  induction d with
  | zero =>
    intro i hi
    refine Ev.step (fun k => rfl) ?_
    refine Ev.neg (by omega) ?_
    rw [List.take_of_length_le (by omega)]
    simpa using hgo
  | succ d ih =>
    intro i hi
    have hlt : i < l.length := by omega
    refine Ev.step (fun k => rfl) ?_
    refine Ev.pos (by omega) ?_
    refine Ev.pos (by omega) ?_
    refine Ev.pos (by omega) ?_
    rw [rdP_at l hlt]
    have go := ih (i + 1) (by omega)
    rw [List.take_add_one, List.getElem?_eq_getElem (by omega)] at go
    simp only [Option.toList_some, List.append_assoc, List.singleton_append] at go
    have e : (masks l)[i]'(by omega) = (maskN l l[i] l.length : Int) := by simp [masks]
    rw [e, ← up64n hlt (by omega)] at go
    exact impl_l1 l x3 hn l[i] ((masks l).take i) (List.replicate d 0) (by simp; omega) b go l.length 0 (by omega)
/-- What a number chooses of a row. -/
def sel : List S36 → Nat → List S36
  | [], _ => []
  | p :: r, m => if m % 2 = 1 then p :: sel r (m / 2) else sel r (m / 2)
def okF (l : List S36) (m : Nat) : List S36 → Nat → Bool
  | [], _ => true
  | p :: r, m' => (decide (m' % 2 = 1) == decide (maskN l p l.length &&& m = 0)) && okF l m r (m' / 2)
def idz (s : List S36) : List Int := s.map (·.f0)
theorem impl_l3 (l : List S36) (x3 : List (List Int)) (hn : l.length ≤ 12) {m : Nat} (hm : m < 2 ^ l.length) (hx3 : x3.length ≤ 4096) (b : List (List Int)) (d : Nat) : ∀ (i : Nat) (acc : List Int), i + d = l.length → acc.length ≤ i →
    Ev (fun k => impl_StagesOf.l2 k l (bif okF l m (l.drop i) (m / 2 ^ i) then x3 ++ [acc ++ idz (sel (l.drop i) (m / 2 ^ i))] else x3) (masks l) (wrap64 ((m : Int) + 1))) b →
    Ev (fun k => impl_StagesOf.l3 k l x3 (masks l) (m : Int) true acc l (l.length : Int) (i : Int)) b := by
  have hml : (masks l).length = l.length := by simp [masks]
  have h2 : 2 ^ l.length ≤ 2 ^ 12 := Nat.pow_le_pow_right (by decide) (by omega)
  have h3 : (2 : Nat) ^ 12 < 2 ^ 62 := by decide
  induction d with
  | zero =>
    intro i acc hi ha hgo
    rw [List.drop_eq_nil_of_le (by omega)] at hgo
    simp only [okF, sel, idz, List.map_nil, List.append_nil, cond_true] at hgo
    refine Ev.step (fun k => rfl) ?_
    refine Ev.neg (by omega) ?_
    refine Ev.pos rfl ?_
    exact Ev.pos (by omega) hgo
  | succ d ih =>
    intro i acc hi ha hgo
    have hlt : i < l.length := by omega
    rw [List.drop_eq_getElem_cons hlt] at hgo
    simp only [okF, sel] at hgo
    have hdd : m / 2 ^ i / 2 = m / 2 ^ (i + 1) := by rw [Nat.div_div_eq_div_mul, Nat.pow_succ]
    rw [hdd] at hgo
    have hdl : m / 2 ^ i < 2 ^ 62 := Nat.lt_of_le_of_lt (Nat.div_le_self _ _) (by omega)
    have hmk := maskN_lt l l[i] l.length
    refine Ev.step (fun k => rfl) ?_
    refine Ev.pos (by omega) ?_
    refine Ev.pos (by omega) ?_
    refine Ev.pos (by omega) ?_
    refine Ev.pos (by omega) ?_
    have e : rd (masks l) (i : Int) = (maskN l l[i] l.length : Int) := by
      rw [rd_at _ (by omega)]
      simp [masks]
    rw [shrN m (by omega), and1 hdl, e, andN (by omega) (by omega), rdP_at l hlt, up64n hlt (by omega)]
    have b1 : (((m / 2 ^ i % 2 : Nat) : Int) == 1) = decide (m / 2 ^ i % 2 = 1) := by
      rw [Bool.eq_iff_iff, beq_iff_eq, decide_eq_true_eq]
      omega
    have b2 : (((maskN l l[i] l.length &&& m : Nat) : Int) == 0) = decide (maskN l l[i] l.length &&& m = 0) := by
      rw [Bool.eq_iff_iff, beq_iff_eq, decide_eq_true_eq]
      omega
    rw [b1, b2]
    by_cases hz : decide (m / 2 ^ i % 2 = 1) = decide (maskN l l[i] l.length &&& m = 0)
    · refine Ev.neg (by rw [hz]; simp) ?_
      rw [hz, beq_self_eq_true, Bool.true_and] at hgo
      by_cases ho : m / 2 ^ i % 2 = 1
      · refine Ev.pos (by omega) ?_
        refine Ev.pos (by omega) ?_
        refine ih (i + 1) _ (by omega) (by simp; omega) ?_
        rw [if_pos ho] at hgo
        simpa [idz] using hgo
      · refine Ev.neg (by omega) ?_
        refine ih (i + 1) _ (by omega) (by omega) ?_
        rw [if_neg ho] at hgo
        exact hgo
    · have e1 : (decide (m / 2 ^ i % 2 = 1) == decide (maskN l l[i] l.length &&& m = 0)) = false := by simpa using hz
      rw [e1, Bool.false_and, cond_false] at hgo
      refine Ev.pos (by simpa using hz) ?_
      exact hgo
def gather (l : List S36) (m d : Nat) : List (List Int) := ((List.range' m d).filter (fun m => okF l m l m)).map (fun m => idz (sel l m))
theorem impl_l2 (l : List S36) (hn : l.length ≤ 12) (d : Nat) : ∀ (m : Nat) (x3 : List (List Int)), m + d = 2 ^ l.length → x3.length ≤ m → 0 < m →
    Ev (fun k => impl_StagesOf.l2 k l x3 (masks l) (m : Int)) ((sortS (x3 ++ gather l m d)).take 40) := by
  have h2 : 2 ^ l.length ≤ 2 ^ 12 := Nat.pow_le_pow_right (by decide) (by omega)
  have h4 : (2 : Nat) ^ 12 = 4096 := by decide
  induction d with
  | zero =>
    intro m x3 hm hx h0
    refine Ev.step (fun k => rfl) ?_
    refine Ev.neg (by rw [shl1 (by omega)]; omega) ?_
    refine Ev.pos (by omega) ?_
    have hmn : mn (x3.length : Int) 40 = ((min x3.length 40 : Nat) : Int) := by
      unfold mn
      split <;> omega
    rw [hmn]
    refine Ev.pos (by omega) ?_
    refine Ev.pos (by omega) ?_
    refine Ev.ret ?_
    rw [Int.toNat_natCast]
    simp only [gather, List.range'_zero, List.filter_nil, List.map_nil, List.append_nil]
    by_cases h : x3.length ≤ 40
    · rw [Nat.min_eq_left h, List.take_of_length_le (by rw [sortS_length]; omega), List.take_of_length_le (by rw [sortS_length]; omega)]
    · rw [Nat.min_eq_right (by omega)]
  | succ d ih =>
    intro m x3 hm hx h0
    refine Ev.step (fun k => rfl) ?_
    refine Ev.pos (by rw [shl1 (by omega)]; omega) ?_
    refine impl_l3 l x3 hn (by omega) (by omega) _ l.length 0 [] (by omega) (Nat.le_refl _) ?_
    rw [up64n (n := 5000) (by omega) (by omega)]
    simp only [List.drop_zero, Nat.pow_zero, Nat.div_one, List.nil_append]
    refine Ev.cast (ih (m + 1) _ (by omega) ?_ (by omega)) ?_
    · cases okF l m l m
      · exact Nat.le_succ_of_le hx
      · simpa using hx
    · simp only [gather, List.range'_succ, List.filter_cons]
      cases okF l m l m
      · rfl
      · simp
theorem impl_stages (l : List S36) : Ev (fun k => impl_StagesOf.f k l) (if pathsB l = true then (sortS (gather l 1 (2 ^ l.length - 1))).take 40 else []) := by
  refine Ev.call rfl ?_
  refine Ev.bind (impl_arePaths l) ?_
  cases hp : pathsB l with
  | false => exact Ev.neg (by simp) (Ev.ret rfl)
  | true =>
    have hn : l.length ≤ 12 := by
      simp only [pathsB, Bool.and_eq_true, decide_eq_true_eq] at hp
      exact hp.1
    refine Ev.pos rfl ?_
    refine Ev.pos (by omega) ?_
    refine Ev.pos (by omega) ?_
    rw [Int.toNat_natCast, if_pos rfl]
    have h1 : 1 ≤ 2 ^ l.length := Nat.one_le_two_pow
    exact impl_l0 l [] hn _ (impl_l2 l hn (2 ^ l.length - 1) 1 [] (by omega) (Nat.zero_le _) (by omega)) l.length 0 (by omega)
end Go.Proofs.Ytkigipimdodliaa.X

namespace Go.Proofs.Ytkigipimdodliaa.X
open Go.RowKit Go.Proofs.PrintWords Go.Proofs.PrintLast Go.Proofs.PrintMore
set_option linter.unusedVariables false
set_option linter.unusedSimpArgs false
theorem range_double : ∀ N : Nat, (List.range (2 * N)).Perm ((List.range N).map (fun m => 2 * m + 1) ++ (List.range N).map (fun m => 2 * m))
  | 0 => List.Perm.refl _
  | N + 1 => by
    have ih := range_double N
    rw [show 2 * (N + 1) = 2 * N + 1 + 1 by omega, List.range_succ, List.range_succ, List.range_succ, List.map_append, List.map_append, List.perm_iff_count]
    intro a
    have := ih.count_eq a
    simp only [List.count_append, List.map_cons, List.map_nil] at this ⊢
    omega
theorem sel_odd (p : S36) (r : List S36) (m : Nat) : sel (p :: r) (2 * m + 1) = p :: sel r m := by
  simp only [sel]
  rw [if_pos (by omega), show (2 * m + 1) / 2 = m by omega]
theorem sel_even (p : S36) (r : List S36) (m : Nat) : sel (p :: r) (2 * m) = sel r m := by
  simp only [sel]
  rw [if_neg (by omega), show (2 * m) / 2 = m by omega]
theorem range_sel : ∀ l : List S36, ((List.range (2 ^ l.length)).map (sel l)).Perm (subs l)
  | [] => List.Perm.refl _
  | p :: r => by
    have ih := range_sel r
    rw [List.length_cons, Nat.pow_succ, Nat.mul_comm]
    refine ((range_double _).map (sel (p :: r))).trans ?_
    rw [List.map_append, List.map_map, List.map_map]
    have e1 : (sel (p :: r) ∘ fun m => 2 * m + 1) = (p :: ·) ∘ sel r := by funext m; exact sel_odd p r m
    have e2 : (sel (p :: r) ∘ fun m => 2 * m) = sel r := by funext m; exact sel_even p r m
    rw [e1, e2, ← List.map_map]
    exact (ih.map _).append ih
theorem sel_zero : ∀ l : List S36, sel l 0 = []
  | [] => rfl
  | p :: r => by
    have := sel_even p r 0
    rw [Nat.mul_zero] at this
    rw [this]
    exact sel_zero r
theorem sel_ne : ∀ (l : List S36) (m : Nat), m < 2 ^ l.length → sel l m = [] → m = 0
  | [], m, hm, _ => by
    simp at hm
    exact hm
  | p :: r, m, hm, h => by
    simp only [sel] at h
    rw [List.length_cons, Nat.pow_succ] at hm
    by_cases ho : m % 2 = 1
    · rw [if_pos ho] at h
      cases h
    · rw [if_neg ho] at h
      have := sel_ne r (m / 2) (by omega) h
      omega
theorem mem_sel : ∀ (r : List S36) (m : Nat) (q : S36), q ∈ sel r m ↔ ∃ i, ∃ hi : i < r.length, r[i] = q ∧ m.testBit i = true
  | [], m, q => by simp [sel]
  | p :: r, m, q => by
    have ih := mem_sel r (m / 2) q
    have key : (∃ i, ∃ hi : i < (p :: r).length, (p :: r)[i] = q ∧ m.testBit i = true) ↔ (p = q ∧ m % 2 = 1) ∨ q ∈ sel r (m / 2) := by
      rw [ih]
      constructor
      · rintro ⟨i, hi, h1, h2⟩
        cases i with
        | zero => exact .inl ⟨h1, by simpa [Nat.testBit_zero] using h2⟩
        | succ i => exact .inr ⟨i, by simpa using hi, by simpa using h1, by rw [Nat.testBit_succ] at h2; exact h2⟩
      · rintro (⟨h1, h2⟩ | ⟨i, hi, h1, h2⟩)
        · exact ⟨0, by simp, h1, by simpa [Nat.testBit_zero] using h2⟩
        · exact ⟨i + 1, by simpa using hi, by simpa using h1, by rw [Nat.testBit_succ]; exact h2⟩
    rw [key]
    simp only [sel]
    by_cases ho : m % 2 = 1
    · rw [if_pos ho, List.mem_cons]
      simp only [ho, and_true]
      constructor
      · rintro (h | h)
        · exact .inl h.symm
        · exact .inr h
      · rintro (h | h)
        · exact .inl h.symm
        · exact .inr h
    · rw [if_neg ho]
      simp [ho]
theorem okF_iff (l : List S36) (m : Nat) : ∀ (r : List S36) (m' : Nat), okF l m r m' = true ↔ ∀ i, ∀ hi : i < r.length, m'.testBit i = decide (maskN l r[i] l.length &&& m = 0)
  | [], m' => by simp [okF]
  | p :: r, m' => by
    simp only [okF, Bool.and_eq_true, okF_iff l m r (m' / 2), beq_iff_eq]
    constructor
    · rintro ⟨h1, h2⟩ i hi
      cases i with
      | zero => rw [Nat.testBit_zero]; exact h1
      | succ i => rw [Nat.testBit_succ]; exact h2 i (by simpa using hi)
    · intro h
      refine ⟨?_, fun i hi => ?_⟩
      · have := h 0 (by simp)
        rw [Nat.testBit_zero] at this
        exact this
      · have := h (i + 1) (by simpa using hi)
        rw [Nat.testBit_succ] at this
        exact this
theorem mask_and (l : List S36) (p : S36) (m : Nat) : maskN l p l.length &&& m = 0 ↔ ∀ q ∈ sel l m, confB p q = false := by
  constructor
  · intro h q hq
    obtain ⟨i, hi, rfl, hb⟩ := (mem_sel l m q).1 hq
    have h1 : (maskN l p l.length &&& m).testBit i = false := by rw [h]; simp
    rw [Nat.testBit_and, maskN_bit, hb, rdP_at l hi] at h1
    simpa [hi] using h1
  · intro h
    refine Nat.eq_of_testBit_eq fun t => ?_
    rw [Nat.testBit_and, maskN_bit, Nat.zero_testBit]
    by_cases ht : t < l.length
    · cases hb : m.testBit t with
      | false => simp
      | true =>
        have := h l[t] ((mem_sel l m _).2 ⟨t, ht, rfl, hb⟩)
        rw [rdP_at l ht, this]
        simp
    · simp [ht]
theorem okF_full {l : List S36} (hA : Asc l) (m : Nat) : okF l m l m = fullB l (sel l m) := by
  have h1 : ∀ i, ∀ hi : i < l.length, decide (l[i] ∈ sel l m) = m.testBit i := by
    intro i hi
    rw [Bool.eq_iff_iff, decide_eq_true_eq, mem_sel]
    constructor
    · rintro ⟨j, hj, e, hb⟩
      have h0 : ¬ i < j := fun h => by have := (hA.idx hi hj).2 h; rw [e] at this; omega
      have h2 : ¬ j < i := fun h => by have := (hA.idx hj hi).2 h; rw [e] at this; omega
      obtain rfl : i = j := by omega
      exact hb
    · intro hb
      exact ⟨i, hi, rfl, hb⟩
  have h2 : ∀ p, decide (maskN l p l.length &&& m = 0) = (sel l m).all (fun q => !confB p q) := by
    intro p
    rw [Bool.eq_iff_iff, decide_eq_true_eq, mask_and, List.all_eq_true]
    simp
  rw [Bool.eq_iff_iff, okF_iff, fullB, List.all_eq_true]
  constructor
  · intro h p hp
    obtain ⟨i, hi, rfl⟩ := List.getElem_of_mem hp
    rw [h1 i hi, ← h2, h i hi]
    simp
  · intro h i hi
    have := h l[i] (List.getElem_mem hi)
    rw [h1 i hi, ← h2, beq_iff_eq] at this
    exact this
theorem gather_perm {l : List S36} (hA : Asc l) : (((subs l).filter (fullNE l)).map ids).Perm (gather l 1 (2 ^ l.length - 1)) := by
  have hp := ((range_sel l).filter (fullNE l)).map ids
  refine hp.symm.trans ?_
  rw [List.filter_map, List.map_map]
  have h1 : 1 ≤ 2 ^ l.length := Nat.one_le_two_pow
  have e : List.range (2 ^ l.length) = 0 :: List.range' 1 (2 ^ l.length - 1) := by
    rw [List.range_eq_range', show 2 ^ l.length = (2 ^ l.length - 1) + 1 by omega, List.range'_succ]
    simp
  rw [e, List.filter_cons, if_neg (by simp [fullNE, sel_zero])]
  have e2 : (List.range' 1 (2 ^ l.length - 1)).filter (fullNE l ∘ sel l) = (List.range' 1 (2 ^ l.length - 1)).filter (fun m => okF l m l m) := by
    refine List.filter_congr fun m hm => ?_
    have hm' := List.mem_range'_1.1 hm
    have hne : (sel l m).isEmpty = false := by
      cases hs : sel l m with
      | nil => have := sel_ne l m (by omega) hs; omega
      | cons _ _ => rfl
    rw [okF_full hA, Function.comp, fullNE, hne]
    simp
  rw [e2]
  exact List.Perm.refl _
/-! Sorted -/
theorem leL_cons (a : Int) (s t : List Int) (h : leL s t = true) : leL (a :: s) (a :: t) = true := by
  simp only [leL, decide_eq_true_eq] at h ⊢
  simpa [cmpL] using h
theorem leL_head (a b : Int) (s t : List Int) (h : a < b) : leL (a :: s) (b :: t) = true := by
  simp only [leL, decide_eq_true_eq]
  simp [cmpL, h]
theorem subs_sorted : ∀ l : List S36, Asc l → (subs l).Pairwise (fun s t => leL (ids s) (ids t) = true ∨ t.Sublist s)
  | [], _ => List.pairwise_singleton _ _
  | p :: r, h => by
    have h' := List.pairwise_cons.1 h
    have ih := subs_sorted r h'.2
    simp only [subs]
    rw [List.pairwise_append]
    refine ⟨?_, ih, ?_⟩
    · rw [List.pairwise_map]
      refine ih.imp fun {s t} hst => ?_
      rcases hst with hst | hst
      · exact .inl (leL_cons _ _ _ hst)
      · exact .inr (hst.cons_cons p)
    · intro a ha t ht
      obtain ⟨s, hs, rfl⟩ := List.mem_map.1 ha
      cases t with
      | nil => exact .inr (List.nil_sublist _)
      | cons q t' =>
        have hq : q ∈ r := (subs_sub r _ ht).subset List.mem_cons_self
        exact .inl (leL_head _ _ _ _ (h'.1 q hq))
theorem sub_eq {t s : List S36} (h : t.Sublist s) (hn : s.Nodup) (hs : ∀ p ∈ s, p ∈ t) : t = s := by
  induction h with
  | slnil => rfl
  | cons a h ih =>
    have hn' := List.nodup_cons.1 hn
    exact absurd (h.subset (hs a List.mem_cons_self)) hn'.1
  | cons_cons a h ih =>
    have hn' := List.nodup_cons.1 hn
    rw [ih hn'.2 (fun p hp => ?_)]
    rcases List.mem_cons.1 (hs p (List.mem_cons_of_mem _ hp)) with e | e
    · exact absurd (e ▸ hp) hn'.1
    · exact e
theorem Asc.nodup {s : List S36} (h : Asc s) : s.Nodup := List.Pairwise.imp (fun {a b} hab e => by rw [e] at hab; omega) h
theorem found_sorted {l : List S36} (hA : Asc l) : (((subs l).filter (fullNE l)).map ids).Pairwise (fun a b => leL a b = true) := by
  rw [List.pairwise_map]
  refine ((subs_sorted l hA).filter (fullNE l)).imp_of_mem fun {s t} hs ht hst => ?_
  rcases hst with hst | hst
  · exact hst
  · obtain ⟨hs1, hs2⟩ := List.mem_filter.1 hs
    obtain ⟨ht1, ht2⟩ := List.mem_filter.1 ht
    simp only [fullNE, Bool.and_eq_true] at hs2 ht2
    have hsl := subs_sub l s hs1
    have htg := full_tog (fun p hp => hsl.subset hp) hs2.1
    have e : t = s := by
      refine sub_eq hst (Asc.nodup (hA.sublist hsl)) fun p hp => ?_
      have h1 := List.all_eq_true.1 ht2.1 p (hsl.subset hp)
      have h2 : (t.all fun q => !confB p q) = true := List.all_eq_true.2 fun q hq => by simp [(tog_iff s).1 htg p hp q (hst.subset hq)]
      rw [h2] at h1
      simpa using h1
    rw [e]
    have := leL_total (ids s) (ids s)
    simpa using this
theorem stages_same (l : List S36) (hn : l.length ≤ 4611686018427387904) : ∃ S : List (List Int), S.length ≤ 40 ∧ Ev (fun k => spec_StagesOf.f k l) S ∧ Ev (fun k => impl_StagesOf.f k l) S := by
  cases hp : pathsB l with
  | false =>
    have h1 := spec_stages l hn
    have h2 := impl_stages l
    rw [hp] at h1 h2
    exact ⟨[], by simp, h1, h2⟩
  | true =>
    have hA : Asc l := by
      simp only [pathsB, Bool.and_eq_true] at hp
      exact (pathsFrom_asc 0 l hp.2).1
    have h1 := spec_stages l hn
    have h2 := impl_stages l
    rw [hp, if_pos rfl] at h1 h2
    rw [sortS_unique (gather_perm hA) (found_sorted hA)] at h1
    exact ⟨_, by rw [List.length_take]; omega, h1, h2⟩
end Go.Proofs.Ytkigipimdodliaa.X

namespace Go.Proofs.Ytkigipimdodliaa.X
open Go.RowKit Go.Proofs.PrintWords Go.Proofs.PrintLast Go.Proofs.PrintMore
def good38 (x : S38) : Prop := (Lit.int .i64 x.f0).wf = true ∧ (Lit.int .i64 x.f1).wf = true ∧ (Lit.int .i64 x.f2).wf = true ∧ (Lit.int .i64 x.f3).wf = true
theorem pureLaw (l : List S38) (_hw : ∀ x ∈ l, good38 x) (hs : l.length * 32 ≤ 140737488351232) : ∃ k, laws_FnExactStageSizes.f k l = some true := by
  obtain ⟨S, hS, h1, h2⟩ := stages_same (l.map to36) (by rw [List.length_map]; omega)
  exact (law_ev l (by omega) h1 h2 hS).rounds
end Go.Proofs.Ytkigipimdodliaa.X

namespace Go.Proofs.PrintWords
open Go.RowKit Go.Deep

/-- WHAT AN ARGUMENT'S READING SAYS: its cells are a value of the kind, and the value is well made. -/
def Down {α : Type} (P : Program) (d : Kd α) (t : TypeId) (good : α → Prop) : Prop :=
  P.cellsOf t = d.sz ∧ ∀ {H : Type} (enc : TypeId × Value → H) (w : World) (spare : Nat → Bool) (held : Bool) (n : Nat) (cs : List Value) (y : DataW H × List MemPlace),
    DataW.trod enc P w 0 spare held n t cs = some y → ∃ x, d.K w x cs ∧ good x
def DownF {α : Type} (P : Program) (fs : List Field) (off : Nat) (d : Kd α) (good : α → Prop) : Prop :=
  ∀ {H : Type} (enc : TypeId × Value → H) (w : World) (spare : Nat → Bool) (held : Bool) (n : Nat) (cs : List Value),
    (∀ f ∈ fs, ∃ y, DataW.trod enc P w 0 spare held n f.type ((cs.drop f.offset).take (P.cellsOf f.type)) = some y) → cs.length = off + d.sz → ∃ x, d.K w x (cs.drop off) ∧ good x
theorem down_int {P : Program} {t : TypeId} {k : IntKind} (ht : P.underlying t = some (.int k)) (hc : P.cellsOf t = 1) : Down P (Kd.int k) t (fun n => (Lit.int k n).wf = true) := by
  refine ⟨hc, fun enc w spare held n cs y h => ?_⟩
  obtain ⟨x, rfl, _, hw⟩ := DataW.trod_int ht h
  exact ⟨x, rfl, hw⟩
theorem down_bool {P : Program} {t : TypeId} (ht : P.underlying t = some .bool) (hc : P.cellsOf t = 1) : Down P Kd.bool t (fun _ => True) := by
  refine ⟨hc, fun enc w spare held n cs y h => ?_⟩
  obtain ⟨x, rfl, _⟩ := DataW.trod_bool ht h
  exact ⟨x, rfl, trivial⟩
theorem down_iso {α β : Type} {P : Program} {d : Kd α} {t : TypeId} {good : α → Prop} (h : Down P d t good) (f : β → α) (g : α → β) (hfg : ∀ x, f (g x) = x) : Down P (Kd.iso d f) t (fun x => good (f x)) := by
  refine ⟨h.1, fun enc w spare held n cs y hy => ?_⟩
  obtain ⟨x, hk, hg⟩ := h.2 enc w spare held n cs y hy
  refine ⟨g x, ?_, by show good (f (g x)); rw [hfg]; exact hg⟩
  show d.K w (f (g x)) cs
  rw [hfg]
  exact hk
theorem downF_last {α : Type} {P : Program} {d : Kd α} {f : Field} {off : Nat} {good : α → Prop} (h : Down P d f.type good) (ho : f.offset = off) : DownF P [f] off d good := by
  intro H enc w spare held n cs hf hl
  obtain ⟨y, hy⟩ := hf f (List.mem_singleton.2 rfl)
  rw [ho, h.1, List.take_of_length_le (by rw [List.length_drop]; omega)] at hy
  exact h.2 enc w spare held n _ y hy
theorem downF_cons {α β : Type} {P : Program} {a : Kd α} {b : Kd β} {f : Field} {fs : List Field} {off off' : Nat} {ga : α → Prop} {gb : β → Prop} (h : Down P a f.type ga) (ho : f.offset = off) (ho' : off + a.sz = off') (hs : DownF P fs off' b gb) :
    DownF P (f :: fs) off (Kd.pair a b) (fun x => ga x.1 ∧ gb x.2) := by
  intro H enc w spare held n cs hf hl
  have hz : (Kd.pair a b).sz = a.sz + b.sz := rfl
  obtain ⟨y, hy⟩ := hf f List.mem_cons_self
  rw [ho, h.1] at hy
  obtain ⟨x0, hk0, hg0⟩ := h.2 enc w spare held n _ y hy
  obtain ⟨x1, hk1, hg1⟩ := hs enc w spare held n cs (fun f' hf' => hf f' (List.mem_cons_of_mem _ hf')) (by omega)
  refine ⟨(x0, x1), ⟨_, _, ?_, hk0, hk1⟩, hg0, hg1⟩
  rw [← ho', ← List.drop_drop, List.take_append_drop]
theorem down_struct {α : Type} {P : Program} {d : Kd α} {t : TypeId} {fs : Array Field} {good : α → Prop} (ht : P.underlying t = some (.struct fs)) (hc : P.cellsOf t = d.sz) (h : DownF P fs.toList 0 d good) : Down P d t good := by
  refine ⟨hc, fun enc w spare held n cs y hy => ?_⟩
  obtain ⟨xs, m, _, _, hl, hlen, hf⟩ := DataW.trod_struct ht hy
  obtain ⟨x, hk, hg⟩ := h enc w spare held m cs (fun f hfm => by
    obtain ⟨i, hi, rfl⟩ := List.getElem_of_mem hfm
    rw [Array.length_toList] at hi
    refine ⟨xs[i], ?_⟩
    rw [hf i _ (by rw [Array.getElem?_eq_getElem hi]; simp), List.getElem?_eq_getElem (by omega)]) (by omega)
  exact ⟨x, by simpa using hk, hg⟩
theorem down_rows {α : Type} {P : Program} {d : Kd α} {t e : TypeId} {good : α → Prop} (ht : P.underlying t = some (.slice e)) (h : Down P d e good) {H : Type} {enc : TypeId × Value → H} {w : World} {spare : Nat → Bool} {held : Bool} {n : Nat} {cs : List Value} {y : DataW H × List MemPlace}
    (hy : DataW.trod enc P w 0 spare held n t cs = some y) : ∃ (A : Option Addr) (c : Nat) (xs : List α), cs = [.slice A xs.length c] ∧ xs.length ≤ c ∧ c ≤ maxLen ∧ Kd.C d w A xs.length xs ∧ ∀ x ∈ xs, good x := by
  rcases open_slice ht hy with ⟨rfl, _⟩ | ⟨a, len, cap, m, k, D, Pl, rfl, _, hl, hm, hmm, _, hx⟩
  · exact ⟨none, 0, [], rfl, Nat.le_refl _, Nat.zero_le _, ⟨rfl, Nat.zero_le _, fun h0 => absurd h0 (Nat.lt_irrefl _)⟩, fun x hx => by cases hx⟩
  · have hlm : len ≤ m := by rw [hmm]; split <;> omega
    rw [h.1] at hx
    have key : ∀ i, i < len → ∃ x : α, good x ∧ ∃ c, c.length = d.sz ∧ d.K w x c ∧ ∀ j u, c[j]? = some u → w.cell? (a.add (i * d.sz + j)) = some u := by
      intro i hi
      obtain ⟨cs', h1, h2⟩ := hx i (by omega)
      obtain ⟨x, hk, hg⟩ := h.2 enc w spare held k cs' _ h2
      obtain ⟨_, hlen, hcell⟩ := World.cells?_some h1
      refine ⟨x, hg, cs', hlen, hk, fun j u hju => ?_⟩
      have hj : j < cs'.length := (List.getElem?_eq_some_iff.1 hju).1
      rw [← hju, ← Go.Deep.add_add, hcell j (by omega)]
    by_cases hz : len = 0
    · subst hz
      exact ⟨some a, cap, [], rfl, Nat.zero_le _, hm, ⟨rfl, Nat.zero_le _, fun h0 => absurd h0 (Nat.lt_irrefl _)⟩, fun x hx => by cases hx⟩
    haveI : Nonempty α := ⟨(key 0 (by omega)).choose⟩
    haveI : Inhabited α := Classical.inhabited_of_nonempty this
    obtain ⟨V, hV⟩ := choose_lt (α := α) (p := fun i x => good x ∧ ∃ c, c.length = d.sz ∧ d.K w x c ∧ ∀ j u, c[j]? = some u → w.cell? (a.add (i * d.sz + j)) = some u) key
    refine ⟨some a, cap, (List.range len).map V, by simp, by simpa using hl, hm, ⟨rfl, ?_, fun _ => ⟨a, rfl, fun j p hp => ?_⟩⟩, fun x hxm => ?_⟩
    · have : maxLen ≤ 9223372036854775807 := by decide
      simp
      omega
    · obtain ⟨hj, rfl⟩ := List.getElem?_eq_some_iff.1 hp
      have hj' : j < len := by simpa using hj
      simpa using (hV j hj').2
    · obtain ⟨i, hi, rfl⟩ := List.mem_map.1 hxm
      exact (hV i (by simpa using hi)).1
theorem down_slice {α : Type} {P : Program} {d : Kd α} {t e : TypeId} {good : α → Prop} (ht : P.underlying t = some (.slice e)) (hc : P.cellsOf t = 1) (h : Down P d e good) : Down P (Kd.slice e d) t (fun xs => xs.length ≤ maxLen ∧ ∀ x ∈ xs, good x) := by
  refine ⟨hc, fun enc w spare held n cs y hy => ?_⟩
  obtain ⟨A, c, xs, rfl, hl, hm, hC, hg⟩ := down_rows ht h hy
  exact ⟨xs, ⟨A, c, rfl, hl, hC⟩, Nat.le_trans hl hm, hg⟩
/-- The bound on what a slice may weigh. -/
theorem sized_rows {H : Type} {enc : TypeId × Value → H} {P : Program} {W : World} {base : Nat} {spare : Nat → Bool} {held : Bool} {t e : TypeId} {a : Option Addr} {len cap : Nat} {d : DataW H} {ps : List MemPlace} {ts : List TypeId} {ds : List (DataW H)} {j : Nat}
    (hsz : (DataW.weightsEach P ts ds).all (· ≤ reachBytes) = true) (ht : ts[j]? = some t) (hd : ds[j]? = some d) (hu : P.underlying t = some (.slice e)) {B : Nat} (hB : P.bytesOf e = B)
    (h : DataW.Trod enc P W base spare held t (.slice a len cap) d ps) : len * B ≤ 140737488351232 := by
  obtain ⟨fuel, hf⟩ := h
  rcases open_slice hu hf with ⟨hcs, _⟩ | ⟨x, l, c, m, n, D, Pl, hcs, _, hl, hm, hmm, hx, _⟩
  · simp [Value.cells] at hcs
    obtain ⟨rfl, rfl, rfl⟩ := hcs
    simp
  · simp [Value.cells] at hcs
    obtain ⟨rfl, rfl, rfl⟩ := hcs
    obtain ⟨hx, _⟩ := Prod.mk.inj hx
    subst hx
    have z := sized_slice hsz ht hd hu
    rw [hB] at z
    have hlm : len ≤ m := by rw [hmm]; split <;> omega
    simp only [List.length_map, List.length_range] at z
    have h2 : len * B ≤ (len + (m - len)) * B := Nat.mul_le_mul_right _ (by omega)
    exact Nat.le_trans h2 z
end Go.Proofs.PrintWords

namespace Go.Proofs.Ytkigipimdodliaa.fnExactStageSizes
open Go.ChangeShapes Go.WideShapes Go.ChangeAt Go.RowKit Go.Proofs.PrintWords
set_option linter.unusedVariables false
theorem own : ownKnob Try.prog.godebug = none := by kernel_rfl
theorem laidOut : laidOutB Try.prog = true := by kernel_rfl
theorem down3 : Down Try.prog (Kd.int .i64) 3 (fun n => (Lit.int .i64 n).wf = true) := down_int (by kernel_rfl) (by kernel_rfl)
theorem under38 : Try.prog.underlying 38 = some (.struct #[{ name := "Id", type := 3, offset := 0, embedded := false, tag := "", pkgPath := "", byteOffset := 0 }, { name := "Kind", type := 3, offset := 1, embedded := false, tag := "", pkgPath := "", byteOffset := 8 }, { name := "From", type := 3, offset := 2, embedded := false, tag := "", pkgPath := "", byteOffset := 16 }, { name := "To", type := 3, offset := 3, embedded := false, tag := "", pkgPath := "", byteOffset := 24 }]) := by kernel_rfl
theorem down38 : Down Try.prog X.k38 38 X.good38 := by
  have h : Down Try.prog (Kd.pair (Kd.int .i64) (Kd.pair (Kd.int .i64) (Kd.pair (Kd.int .i64) (Kd.int .i64)))) 38 _ :=
    down_struct under38 (by kernel_rfl) (downF_cons down3 rfl rfl (downF_cons down3 rfl rfl (downF_cons down3 rfl rfl (downF_last down3 rfl))))
  exact down_iso h (fun x : X.S38 => (x.f0, x.f1, x.f2, x.f3)) (fun x => ⟨x.1, x.2.1, x.2.2.1, x.2.2.2⟩) (fun _ => rfl)
set_option maxRecDepth 100000 in
theorem lifted (os : Os) (started : os.Started) (H : Type) (enc : TypeId × Value → H) :
    ReturnsInHanded {} Try.checked os 3 .any (Rows.fnExactStageSizesSpec.pre6 enc Try.prog Try.f3 Rows.fnExactStageSizesRow.domain false) (Rows.fnExactStageSizesSpec.post enc Try.prog Try.f3 false true false false) := by
  refine returnsInHanded_of_change_sized (C := Try.checked) own started (by kernel_rfl) Try.func3
    (ChangeSpec.witness6 (enc := enc) (C := Try.checked) false ⟨#[], #[.slice none 0 0], []⟩ 8 (by kernel_rfl) (by kernel_rfl) (by kernel_rfl) (by kernel_rfl)) ?_
  intro W base args ds gs before hval0 hW hcnd hsz0 _
  have hsz : (DataW.weightsEach Try.prog (Try.f3.params.toList ++ Rows.fnExactStageSizesSpec.plain.varTypes Try.prog) (ds ++ gs)).all (· ≤ reachBytes) = true := hsz0
  have hval : ∀ (j : Nat) t v, Try.f3.params[j]? = some t → args[j]? = some v → Value.okWide Try.prog W .any base t v := hval0
  have hW' := hW
  obtain ⟨p, q, hA0, hV, rfl, hfz, hnd⟩ := hW
  have hA : DataW.TrodAll enc Try.prog W 0 (fun _ => true) true Try.f3.params.toList args.toList ds p := hA0
  rw [Try.params3] at hA hval hsz
  obtain ⟨v0, vs0, d0, ds0, p0, q0, hargs, rfl, rfl, h0, r0⟩ := trodAll_cons hA
  obtain ⟨rfl, rfl, rfl⟩ := trodAll_nil r0
  obtain rfl : args = #[v0] := by cases args; simp_all
  obtain ⟨rfl, rfl⟩ := trodVars_none hV
  obtain ⟨a0, len0, cap0, rfl⟩ := okWide_slice Try.underlying22 (hval 0 22 v0 rfl rfl)
  have k0 := h0
  have lt0 : ∀ x ∈ p0, x.block < W.heap.size := by obtain ⟨m, hm⟩ := k0; exact DataW.trod_lt m _ _ _ hm
  have y0 : len0 * 32 ≤ 140737488351232 := sized_rows hsz (j := 0) (t := 22) rfl rfl Try.underlying22 (by kernel_rfl) h0
  obtain ⟨fuel, hf⟩ := h0
  obtain ⟨A, c, xs, hcs, hl, _, hC, hg⟩ := down_rows Try.underlying22 down38 hf
  simp [Value.cells] at hcs
  obtain ⟨rfl, rfl, rfl⟩ := hcs
  obtain ⟨k, hk⟩ := X.pureLaw xs hg y0
  clear hA0 hval0 hsz0 hsz
  refine (X.laws_FnExactStageSizes.calls k a0 cap0 xs true W hC hl hk).mono fun e W' ⟨he, bel⟩ => ?_
  subst he
  exact ⟨_, rfl, _, _, _, [], _, [], hW', trodAll_mk1 (shut_bool Try.underlying4 _), (trodAll_cons_mk (Below.trod laidOut (by kernel_rfl) (of_decide_eq_true (by kernel_rfl)) k0 bel lt0) trodAll_mk0), rfl, bel.frame _, fun h => by cases h⟩
theorem over : Rows.fnExactStageSizesRow.holds Try.pinned (OpenSpec.ofChange Rows.fnExactStageSizesSpec) :=
  OpenClaim.holds_of_wide 3 Try.f3 rfl rfl rfl rfl rfl rfl rfl ⟨rfl, rfl, rfl, rfl, rfl⟩ rfl rfl rfl rfl rfl (by kernel_rfl) Try.func3 (by kernel_rfl)
    (of_decide_eq_true (by kernel_rfl)) (by unfold Func.isWrapper; first | (rw [if_pos (by decide +kernel)]; kernel_rfl) | (rw [if_neg (by decide +kernel)]; exact ⟨rfl, rfl⟩))
    (fun os started H enc _ => lifted os started H enc)
theorem proved : Rows.FnExactStageSizesSaid := over
end Go.Proofs.Ytkigipimdodliaa.fnExactStageSizes
namespace Go.Proofs.Ytkigipimdodliaa
/-- The row, under a short name, for the claim. -/
theorem fnExactStageSizes_holds : Rows.FnExactStageSizesSaid := fnExactStageSizes.proved
end Go.Proofs.Ytkigipimdodliaa
