-- Written by myprint.py, a program of this session, which runs the kit's printer with changes of its own. Lean checks it.
import Derived.Test.YtncajfbncgglcaaXKindsx0
import Derived.Test.YtncajfbncgglcaaXKindsx1
import Derived.Test.YtncajfbncgglcaaXKindsx2
namespace Go.Proofs.Ytncajfbncgglcaa.XKinds
open Go.RowKit Go.Proofs.YtncajfbncgglcaaW.PrintWords Go.Proofs.YtncajfbncgglcaaW.PrintLast Go.Proofs.YtncajfbncgglcaaW.PrintMore
attribute [local go_sem] max2_int min2_int max_two min_two max_three min_three max_four min_four   -- for this text's walks alone
set_option linter.unusedVariables false
set_option linter.unusedSimpArgs false

/-! ### spec_JoinKinds: function 29 -/
def spec_JoinKinds.j0 : Nat → Int → Int → Bool → Option (Int)
  | 0, _, _, _ => none
  | k + 1, x0, x1, x5 => if x5 = true then (some 0) else ((spec_IsWithin.f x0 x1).bind fun t160 => (if t160 = true then (some x1) else ((spec_IsWithin.f x1 x0).bind fun t161 => (if t161 = true then (some x0) else (some 4)))))
def spec_JoinKinds.f (k : Nat) (a0 : Int) (a1 : Int) : Option (Int) := (spec_IsKind.f a0).bind fun t158 => (if t158 = true then ((spec_IsKind.f a1).bind fun t159 => (spec_JoinKinds.j0 k a0 a1 (!t159))) else (spec_JoinKinds.j0 k a0 a1 true))
theorem spec_JoinKinds.mono_l : ∀ k, (∀ y0 y1 y2, LeO (spec_JoinKinds.j0 k y0 y1 y2) (spec_JoinKinds.j0 (k + 1) y0 y1 y2))
  | 0 => fun _ _ _ r h => by simp [spec_JoinKinds.j0] at h
  | k + 1 => by
    have ih0 := spec_JoinKinds.mono_l k
    · intro y0 y1 y2
      unfold spec_JoinKinds.j0
      repeat' first
      | (with_reducible exact ih0 _ _ _)
      | (with_reducible exact LeO.refl _)
      | (with_reducible exact LeO.none _)
      | (with_reducible refine LeO.ite ?_ ?_)
      | (with_reducible refine LeO.bind ?_ (fun _ => ?_))
      | exact ih0 _ _ _
      | exact LeO.none _
      | refine LeO.ite ?_ ?_
      | refine LeO.bind ?_ (fun _ => ?_)
theorem spec_JoinKinds.mono : ∀ a0 a1 k, LeO (spec_JoinKinds.f k a0 a1) (spec_JoinKinds.f (k + 1) a0 a1) := by
  intro a0 a1 k
  have ih0 := spec_JoinKinds.mono_l k
  unfold spec_JoinKinds.f
  repeat' first
      | (with_reducible exact ih0 _ _ _)
      | (with_reducible exact LeO.refl _)
      | (with_reducible exact LeO.none _)
      | (with_reducible refine LeO.ite ?_ ?_)
      | (with_reducible refine LeO.bind ?_ (fun _ => ?_))
      | exact ih0 _ _ _
      | exact LeO.none _
      | refine LeO.ite ?_ ?_
      | refine LeO.bind ?_ (fun _ => ?_)
set_option maxHeartbeats 8000000 in
set_option maxRecDepth 100000 in
theorem spec_JoinKinds.calls (k : Nat) (a0 : Int) (a1 : Int) (r : Int) (w : World) (h : spec_JoinKinds.f k a0 a1 = some r) :
    Calls Try.prog 29 #[.int .i64 a0, .int .i64 a1] w fun e w' => e = .returned (.int .i64 r) ∧ Drawn0 w w' := by
  have H : ((spec_IsKind.f a0).bind fun t158 => (if t158 = true then ((spec_IsKind.f a1).bind fun t159 => (spec_JoinKinds.j0 k a0 a1 (!t159))) else (spec_JoinKinds.j0 k a0 a1 true))) = some r := h
  clear h
  have HC3 := Aside0.mk H
  clear H
  go_enter Try.func29, Try.ntmps29
  go_upto_region 1 with (fail)
  go_cut [5] (fun v5 wc => ∃ (kq : Nat) (x5_2 : Bool), v5 = .bool x5_2 ∧ Aside0 (spec_JoinKinds.j0 kq a0 a1 x5_2 = some r) ∧ Aside0 (kq ≤ k) ∧ Drawn0 w wc)
  case first =>
    have H := HC3.out
    clear HC3
    replace H := Option.bind_eq_some_iff.mp H
    obtain ⟨t158, A40, H⟩ := H
    replace H : (if t158 = true then ((spec_IsKind.f a1).bind fun t159 => (spec_JoinKinds.j0 k a0 a1 (!t159))) else (spec_JoinKinds.j0 k a0 a1 true)) = some r := H
    have A4 := Aside0.mk A40
    clear A40
    by_cases c5 : t158 = true
    · subst c5
      have H1 : ((spec_IsKind.f a1).bind fun t159 => (spec_JoinKinds.j0 k a0 a1 (!t159))) = some r := by rw [if_pos rfl] at H; exact H
      clear H
      have H := H1
      clear H1
      replace H := Option.bind_eq_some_iff.mp H
      obtain ⟨t159, A60, H⟩ := H
      replace H : (spec_JoinKinds.j0 k a0 a1 (!t159)) = some r := H
      have A6 := Aside0.mk A60
      clear A60
      have H' := Aside0.mk H
      clear H
      go_wp2_with (first | ((with_reducible refine gate_callee (f := 15) rfl ?_); refine goesL_ (some 7) rfl rfl Try.func15 (by kernel_rfl) rfl #[.int .i64 a0] rfl (by (try simp only [List.map_toArray, List.map_cons, List.map_nil]); first | done | rfl | (simp only [List.length_drop, List.length_take]; rfl)) ?_; (with_reducible refine (spec_IsKind.calls a0 true _ A4.out).mono ?_); rintro e w' ⟨rfl, ⟨nd, rfl⟩⟩; refine ⟨_, rfl, ?_⟩) | (go_at_call 15; (with_reducible refine (spec_IsKind.calls a1 t159 _ A6.out).mono ?_); rintro e w' ⟨rfl, ⟨nd, rfl⟩⟩))
      go_meet
      case rel => exact ⟨_, (!t159), (by first | rfl | (simp; done) | (simp [*]; done)), H', ⟨by first | omega | exact Nat.le_refl _⟩, by repeat (first | exact Drawn0.refl _ | apply Drawn0.step)⟩
    · replace c5 := Bool.eq_false_iff.mpr c5
      subst c5
      have H1 : (spec_JoinKinds.j0 k a0 a1 true) = some r := by rw [if_neg (show ¬ (false = true) by decide)] at H; exact H
      clear H
      have H := H1
      clear H1
      have H' := Aside0.mk H
      clear H
      go_wp2_with (first | ((with_reducible refine gate_callee (f := 15) rfl ?_); refine goesL_ (some 7) rfl rfl Try.func15 (by kernel_rfl) rfl #[.int .i64 a0] rfl (by (try simp only [List.map_toArray, List.map_cons, List.map_nil]); first | done | rfl | (simp only [List.length_drop, List.length_take]; rfl)) ?_; (with_reducible refine (spec_IsKind.calls a0 false _ A4.out).mono ?_); rintro e w' ⟨rfl, ⟨nd, rfl⟩⟩; refine ⟨_, rfl, ?_⟩))
      go_meet
      case rel => exact ⟨_, (true), (by first | rfl | (simp; done) | (simp [*]; done)), H', ⟨by first | omega | exact Nat.le_refl _⟩, by repeat (first | exact Drawn0.refl _ | apply Drawn0.step)⟩
  case rest =>
    clear HC3
    try clear c1
    try clear c2
    try clear p2
    try clear c5
    obtain ⟨kq, x5_2, rfl, HA, HJ2, ⟨mc2, rfl⟩⟩ := hcut
    cases kq with
    | zero => exact absurd HA.out (by simp [spec_JoinKinds.j0])
    | succ kj2 =>
      have H := HA.out
      clear HA
      simp only [spec_JoinKinds.j0] at H
      by_cases c7 : x5_2 = true
      · subst c7
        have H1 : (some 0) = some r := by rw [if_pos rfl] at H; exact H
        clear H
        have H := H1
        clear H1
        obtain rfl := Option.some.inj H
        go_wp2
        go_ret
        exact ⟨by first | rfl | (simp; done) | (simp [*]; done), by repeat (first | exact Drawn0.refl _ | apply Drawn0.step)⟩
      · replace c7 := Bool.eq_false_iff.mpr c7
        subst c7
        have H1 : ((spec_IsWithin.f a0 a1).bind fun t160 => (if t160 = true then (some a1) else ((spec_IsWithin.f a1 a0).bind fun t161 => (if t161 = true then (some a0) else (some 4))))) = some r := by rw [if_neg (show ¬ (false = true) by decide)] at H; exact H
        clear H
        have H := H1
        clear H1
        replace H := Option.bind_eq_some_iff.mp H
        obtain ⟨t160, A80, H⟩ := H
        replace H : (if t160 = true then (some a1) else ((spec_IsWithin.f a1 a0).bind fun t161 => (if t161 = true then (some a0) else (some 4)))) = some r := H
        have A8 := Aside0.mk A80
        clear A80
        by_cases c9 : t160 = true
        · subst c9
          have H1 : (some a1) = some r := by rw [if_pos rfl] at H; exact H
          clear H
          have H := H1
          clear H1
          obtain rfl := Option.some.inj H
          go_wp2_with (first | ((with_reducible refine gate_callee (f := 19) rfl ?_); refine goesL_ (some 17) rfl rfl Try.func19 (by kernel_rfl) rfl #[.int .i64 a0, .int .i64 a1] rfl (by (try simp only [List.map_toArray, List.map_cons, List.map_nil]); first | done | rfl | (simp only [List.length_drop, List.length_take]; rfl)) ?_; (with_reducible refine (spec_IsWithin.calls a0 a1 true _ A8.out).mono ?_); rintro e w' ⟨rfl, ⟨nd, rfl⟩⟩; refine ⟨_, rfl, ?_⟩))
          go_ret
          exact ⟨by first | rfl | (simp; done) | (simp [*]; done), by repeat (first | exact Drawn0.refl _ | apply Drawn0.step)⟩
        · replace c9 := Bool.eq_false_iff.mpr c9
          subst c9
          have H1 : ((spec_IsWithin.f a1 a0).bind fun t161 => (if t161 = true then (some a0) else (some 4))) = some r := by rw [if_neg (show ¬ (false = true) by decide)] at H; exact H
          clear H
          have H := H1
          clear H1
          replace H := Option.bind_eq_some_iff.mp H
          obtain ⟨t161, A100, H⟩ := H
          replace H : (if t161 = true then (some a0) else (some 4)) = some r := H
          have A10 := Aside0.mk A100
          clear A100
          by_cases c11 : t161 = true
          · subst c11
            have H1 : (some a0) = some r := by rw [if_pos rfl] at H; exact H
            clear H
            have H := H1
            clear H1
            obtain rfl := Option.some.inj H
            go_wp2_with (first | ((with_reducible refine gate_callee (f := 19) rfl ?_); refine goesL_ (some 17) rfl rfl Try.func19 (by kernel_rfl) rfl #[.int .i64 a0, .int .i64 a1] rfl (by (try simp only [List.map_toArray, List.map_cons, List.map_nil]); first | done | rfl | (simp only [List.length_drop, List.length_take]; rfl)) ?_; (with_reducible refine (spec_IsWithin.calls a0 a1 false _ A8.out).mono ?_); rintro e w' ⟨rfl, ⟨nd, rfl⟩⟩; refine ⟨_, rfl, ?_⟩) | ((with_reducible refine gate_callee (f := 19) rfl ?_); refine goesL_ (some 22) rfl rfl Try.func19 (by kernel_rfl) rfl #[.int .i64 a1, .int .i64 a0] rfl (by (try simp only [List.map_toArray, List.map_cons, List.map_nil]); first | done | rfl | (simp only [List.length_drop, List.length_take]; rfl)) ?_; (with_reducible refine (spec_IsWithin.calls a1 a0 true _ A10.out).mono ?_); rintro e w' ⟨rfl, ⟨nd, rfl⟩⟩; refine ⟨_, rfl, ?_⟩))
            go_ret
            exact ⟨by first | rfl | (simp; done) | (simp [*]; done), by repeat (first | exact Drawn0.refl _ | apply Drawn0.step)⟩
          · replace c11 := Bool.eq_false_iff.mpr c11
            subst c11
            have H1 : (some 4) = some r := by rw [if_neg (show ¬ (false = true) by decide)] at H; exact H
            clear H
            have H := H1
            clear H1
            obtain rfl := Option.some.inj H
            go_wp2_with (first | ((with_reducible refine gate_callee (f := 19) rfl ?_); refine goesL_ (some 17) rfl rfl Try.func19 (by kernel_rfl) rfl #[.int .i64 a0, .int .i64 a1] rfl (by (try simp only [List.map_toArray, List.map_cons, List.map_nil]); first | done | rfl | (simp only [List.length_drop, List.length_take]; rfl)) ?_; (with_reducible refine (spec_IsWithin.calls a0 a1 false _ A8.out).mono ?_); rintro e w' ⟨rfl, ⟨nd, rfl⟩⟩; refine ⟨_, rfl, ?_⟩) | ((with_reducible refine gate_callee (f := 19) rfl ?_); refine goesL_ (some 22) rfl rfl Try.func19 (by kernel_rfl) rfl #[.int .i64 a1, .int .i64 a0] rfl (by (try simp only [List.map_toArray, List.map_cons, List.map_nil]); first | done | rfl | (simp only [List.length_drop, List.length_take]; rfl)) ?_; (with_reducible refine (spec_IsWithin.calls a1 a0 false _ A10.out).mono ?_); rintro e w' ⟨rfl, ⟨nd, rfl⟩⟩; refine ⟨_, rfl, ?_⟩))
            go_ret
            exact ⟨by first | rfl | (simp; done) | (simp [*]; done), by repeat (first | exact Drawn0.refl _ | apply Drawn0.step)⟩

/-! ### laws_FnKinds: function 9 -/
mutual
def laws_FnKinds.j0 : Nat → Int → Int → Int → Int → Bool → Option (Bool)
  | 0, _, _, _, _, _ => none
  | k + 1, x3, x4, x5, x6, x77 => if x77 = true then (some false) else ((impl_IsKind.f x3).bind fun t179 => (if t179 = true then ((impl_IsKind.f x4).bind fun t180 => (laws_FnKinds.j1 k x3 x4 x5 x6 (!t180))) else (laws_FnKinds.j1 k x3 x4 x5 x6 true)))
def laws_FnKinds.j1 : Nat → Int → Int → Int → Int → Bool → Option (Bool)
  | 0, _, _, _, _, _ => none
  | k + 1, x3, x4, x5, x6, x85 => if x85 = true then (some (x6 == 0)) else ((impl_IsWithin.f k x3 x6).bind fun t181 => (if t181 = true then ((impl_IsWithin.f k x4 x6).bind fun t182 => (if t182 = true then ((impl_IsWithin.f k x3 x4).bind fun t183 => (if t183 = true then ((impl_IsWithin.f k x4 x3).bind fun t184 => (if t184 = true then (laws_FnKinds.j2 k x3 x4 x5 x6 (x3 != x4)) else (laws_FnKinds.j2 k x3 x4 x5 x6 false))) else (laws_FnKinds.j2 k x3 x4 x5 x6 false))) else (laws_FnKinds.j2 k x3 x4 x5 x6 true))) else (laws_FnKinds.j2 k x3 x4 x5 x6 true)))
def laws_FnKinds.j2 : Nat → Int → Int → Int → Int → Bool → Option (Bool)
  | 0, _, _, _, _, _ => none
  | k + 1, x3, x4, x5, x6, x112 => if x112 = true then (some false) else ((impl_IsKind.f x5).bind fun t185 => (if t185 = true then ((impl_IsWithin.f k x3 x5).bind fun t186 => (if t186 = true then ((impl_IsWithin.f k x4 x5).bind fun t187 => (if t187 = true then ((impl_IsWithin.f k x6 x5).bind fun t188 => (some t188)) else (some true))) else (some true))) else (some true)))
end
def laws_FnKinds.f (k : Nat) (l0 : List Int) : Option (Bool) := (laws_big.f l0).bind fun t162 => (if t162 = true then (some true) else ((spec_DrawJoinKinds.f k l0).bind fun bt163 => ((spec_DrawKindText.f k l0).bind fun t165 => ((impl_JoinKinds.f k bt163.1 bt163.2).bind fun t166 => ((impl_FociRange.f k t165).bind fun bt167 => ((spec_FociRange.f k t165).bind fun bt169 => ((spec_JoinKinds.f k bt163.1 bt163.2).bind fun t171 => (if t166 = t171 then ((impl_IsWithin.f k bt163.1 bt163.2).bind fun t172 => ((spec_IsWithin.f bt163.1 bt163.2).bind fun t173 => (if (t172 != t173) = true then (laws_FnKinds.j0 k bt163.1 bt163.2 t165 t166 true) else ((impl_KindText.f t165).bind fun t174 => ((spec_KindText.f t165).bind fun t175 => (if t174.toList = t175.toList then (if bt167.1 = bt169.1 then (if bt167.2 = bt169.2 then ((impl_IsKind.f t165).bind fun t176 => ((spec_IsKind.f t165).bind fun t177 => (if (t176 != t177) = true then (laws_FnKinds.j0 k bt163.1 bt163.2 t165 t166 true) else ((impl_JoinKinds.f k bt163.2 bt163.1).bind fun t178 => (laws_FnKinds.j0 k bt163.1 bt163.2 t165 t166 (t166 != t178)))))) else (laws_FnKinds.j0 k bt163.1 bt163.2 t165 t166 true)) else (laws_FnKinds.j0 k bt163.1 bt163.2 t165 t166 true)) else (laws_FnKinds.j0 k bt163.1 bt163.2 t165 t166 true))))))) else (laws_FnKinds.j0 k bt163.1 bt163.2 t165 t166 true)))))))))
theorem laws_FnKinds.mono_l : ∀ k, (∀ y0 y1 y2 y3 y4, LeO (laws_FnKinds.j0 k y0 y1 y2 y3 y4) (laws_FnKinds.j0 (k + 1) y0 y1 y2 y3 y4)) ∧ (∀ y0 y1 y2 y3 y4, LeO (laws_FnKinds.j1 k y0 y1 y2 y3 y4) (laws_FnKinds.j1 (k + 1) y0 y1 y2 y3 y4)) ∧ (∀ y0 y1 y2 y3 y4, LeO (laws_FnKinds.j2 k y0 y1 y2 y3 y4) (laws_FnKinds.j2 (k + 1) y0 y1 y2 y3 y4))
  | 0 => ⟨fun _ _ _ _ _ r h => by simp [laws_FnKinds.j0] at h, fun _ _ _ _ _ r h => by simp [laws_FnKinds.j1] at h, fun _ _ _ _ _ r h => by simp [laws_FnKinds.j2] at h⟩
  | k + 1 => by
    obtain ⟨ih0, ih1, ih2⟩ := laws_FnKinds.mono_l k
    refine ⟨?_, ?_, ?_⟩
    · intro y0 y1 y2 y3 y4
      unfold laws_FnKinds.j0
      repeat' first
      | (with_reducible exact ih0 _ _ _ _ _)
      | (with_reducible exact ih1 _ _ _ _ _)
      | (with_reducible exact ih2 _ _ _ _ _)
      | (with_reducible exact impl_FociRange.mono _ _)
      | (with_reducible exact impl_IsWithin.mono _ _ _)
      | (with_reducible exact impl_JoinKinds.mono _ _ _)
      | (with_reducible exact spec_DrawJoinKinds.mono _ _)
      | (with_reducible exact spec_DrawKindText.mono _ _)
      | (with_reducible exact spec_FociRange.mono _ _)
      | (with_reducible exact spec_JoinKinds.mono _ _ _)
      | (with_reducible exact LeO.refl _)
      | (with_reducible exact LeO.none _)
      | (with_reducible refine LeO.ite ?_ ?_)
      | (with_reducible refine LeO.bind ?_ (fun _ => ?_))
      | exact ih0 _ _ _ _ _
      | exact ih1 _ _ _ _ _
      | exact ih2 _ _ _ _ _
      | exact impl_FociRange.mono _ _
      | exact impl_IsWithin.mono _ _ _
      | exact impl_JoinKinds.mono _ _ _
      | exact spec_DrawJoinKinds.mono _ _
      | exact spec_DrawKindText.mono _ _
      | exact spec_FociRange.mono _ _
      | exact spec_JoinKinds.mono _ _ _
      | exact LeO.none _
      | refine LeO.ite ?_ ?_
      | refine LeO.bind ?_ (fun _ => ?_)
    · intro y0 y1 y2 y3 y4
      unfold laws_FnKinds.j1
      repeat' first
      | (with_reducible exact ih0 _ _ _ _ _)
      | (with_reducible exact ih1 _ _ _ _ _)
      | (with_reducible exact ih2 _ _ _ _ _)
      | (with_reducible exact impl_FociRange.mono _ _)
      | (with_reducible exact impl_IsWithin.mono _ _ _)
      | (with_reducible exact impl_JoinKinds.mono _ _ _)
      | (with_reducible exact spec_DrawJoinKinds.mono _ _)
      | (with_reducible exact spec_DrawKindText.mono _ _)
      | (with_reducible exact spec_FociRange.mono _ _)
      | (with_reducible exact spec_JoinKinds.mono _ _ _)
      | (with_reducible exact LeO.refl _)
      | (with_reducible exact LeO.none _)
      | (with_reducible refine LeO.ite ?_ ?_)
      | (with_reducible refine LeO.bind ?_ (fun _ => ?_))
      | exact ih0 _ _ _ _ _
      | exact ih1 _ _ _ _ _
      | exact ih2 _ _ _ _ _
      | exact impl_FociRange.mono _ _
      | exact impl_IsWithin.mono _ _ _
      | exact impl_JoinKinds.mono _ _ _
      | exact spec_DrawJoinKinds.mono _ _
      | exact spec_DrawKindText.mono _ _
      | exact spec_FociRange.mono _ _
      | exact spec_JoinKinds.mono _ _ _
      | exact LeO.none _
      | refine LeO.ite ?_ ?_
      | refine LeO.bind ?_ (fun _ => ?_)
    · intro y0 y1 y2 y3 y4
      unfold laws_FnKinds.j2
      repeat' first
      | (with_reducible exact ih0 _ _ _ _ _)
      | (with_reducible exact ih1 _ _ _ _ _)
      | (with_reducible exact ih2 _ _ _ _ _)
      | (with_reducible exact impl_FociRange.mono _ _)
      | (with_reducible exact impl_IsWithin.mono _ _ _)
      | (with_reducible exact impl_JoinKinds.mono _ _ _)
      | (with_reducible exact spec_DrawJoinKinds.mono _ _)
      | (with_reducible exact spec_DrawKindText.mono _ _)
      | (with_reducible exact spec_FociRange.mono _ _)
      | (with_reducible exact spec_JoinKinds.mono _ _ _)
      | (with_reducible exact LeO.refl _)
      | (with_reducible exact LeO.none _)
      | (with_reducible refine LeO.ite ?_ ?_)
      | (with_reducible refine LeO.bind ?_ (fun _ => ?_))
      | exact ih0 _ _ _ _ _
      | exact ih1 _ _ _ _ _
      | exact ih2 _ _ _ _ _
      | exact impl_FociRange.mono _ _
      | exact impl_IsWithin.mono _ _ _
      | exact impl_JoinKinds.mono _ _ _
      | exact spec_DrawJoinKinds.mono _ _
      | exact spec_DrawKindText.mono _ _
      | exact spec_FociRange.mono _ _
      | exact spec_JoinKinds.mono _ _ _
      | exact LeO.none _
      | refine LeO.ite ?_ ?_
      | refine LeO.bind ?_ (fun _ => ?_)
theorem laws_FnKinds.mono : ∀ a0 k, LeO (laws_FnKinds.f k a0) (laws_FnKinds.f (k + 1) a0) := by
  intro a0 k
  obtain ⟨ih0, ih1, ih2⟩ := laws_FnKinds.mono_l k
  unfold laws_FnKinds.f
  repeat' first
      | (with_reducible exact ih0 _ _ _ _ _)
      | (with_reducible exact ih1 _ _ _ _ _)
      | (with_reducible exact ih2 _ _ _ _ _)
      | (with_reducible exact impl_FociRange.mono _ _)
      | (with_reducible exact impl_IsWithin.mono _ _ _)
      | (with_reducible exact impl_JoinKinds.mono _ _ _)
      | (with_reducible exact spec_DrawJoinKinds.mono _ _)
      | (with_reducible exact spec_DrawKindText.mono _ _)
      | (with_reducible exact spec_FociRange.mono _ _)
      | (with_reducible exact spec_JoinKinds.mono _ _ _)
      | (with_reducible exact LeO.refl _)
      | (with_reducible exact LeO.none _)
      | (with_reducible refine LeO.ite ?_ ?_)
      | (with_reducible refine LeO.bind ?_ (fun _ => ?_))
      | exact ih0 _ _ _ _ _
      | exact ih1 _ _ _ _ _
      | exact ih2 _ _ _ _ _
      | exact impl_FociRange.mono _ _
      | exact impl_IsWithin.mono _ _ _
      | exact impl_JoinKinds.mono _ _ _
      | exact spec_DrawJoinKinds.mono _ _
      | exact spec_DrawKindText.mono _ _
      | exact spec_FociRange.mono _ _
      | exact spec_JoinKinds.mono _ _ _
      | exact LeO.none _
      | refine LeO.ite ?_ ?_
      | refine LeO.bind ?_ (fun _ => ?_)
set_option maxHeartbeats 8000000 in
set_option maxRecDepth 100000 in
theorem laws_FnKinds.calls (k : Nat) (A0 : Option Addr) (c0 : Nat) (l0 : List Int) (r : Bool) (w : World) (hr0 : Kd.C (Kd.int .u8) w A0 l0.length l0) (hc0 : l0.length ≤ c0) (h : laws_FnKinds.f k l0 = some r) :
    Calls Try.prog 9 #[.slice A0 l0.length c0] w fun e w' => e = .returned (.bool r) ∧ Below w.heap.size w w' := by
  have HR0 := Aside0.mk hr0
  have HC0 := Aside0.mk hc0
  clear hr0 hc0
  have HB := Aside0.mk (Below.refl w.heap.size w)
  have H : ((laws_big.f l0).bind fun t162 => (if t162 = true then (some true) else ((spec_DrawJoinKinds.f k l0).bind fun bt163 => ((spec_DrawKindText.f k l0).bind fun t165 => ((impl_JoinKinds.f k bt163.1 bt163.2).bind fun t166 => ((impl_FociRange.f k t165).bind fun bt167 => ((spec_FociRange.f k t165).bind fun bt169 => ((spec_JoinKinds.f k bt163.1 bt163.2).bind fun t171 => (if t166 = t171 then ((impl_IsWithin.f k bt163.1 bt163.2).bind fun t172 => ((spec_IsWithin.f bt163.1 bt163.2).bind fun t173 => (if (t172 != t173) = true then (laws_FnKinds.j0 k bt163.1 bt163.2 t165 t166 true) else ((impl_KindText.f t165).bind fun t174 => ((spec_KindText.f t165).bind fun t175 => (if t174.toList = t175.toList then (if bt167.1 = bt169.1 then (if bt167.2 = bt169.2 then ((impl_IsKind.f t165).bind fun t176 => ((spec_IsKind.f t165).bind fun t177 => (if (t176 != t177) = true then (laws_FnKinds.j0 k bt163.1 bt163.2 t165 t166 true) else ((impl_JoinKinds.f k bt163.2 bt163.1).bind fun t178 => (laws_FnKinds.j0 k bt163.1 bt163.2 t165 t166 (t166 != t178)))))) else (laws_FnKinds.j0 k bt163.1 bt163.2 t165 t166 true)) else (laws_FnKinds.j0 k bt163.1 bt163.2 t165 t166 true)) else (laws_FnKinds.j0 k bt163.1 bt163.2 t165 t166 true))))))) else (laws_FnKinds.j0 k bt163.1 bt163.2 t165 t166 true)))))))))) = some r := h
  clear h
  replace H := Option.bind_eq_some_iff.mp H
  obtain ⟨t162, A20, H⟩ := H
  replace H : (if t162 = true then (some true) else ((spec_DrawJoinKinds.f k l0).bind fun bt163 => ((spec_DrawKindText.f k l0).bind fun t165 => ((impl_JoinKinds.f k bt163.1 bt163.2).bind fun t166 => ((impl_FociRange.f k t165).bind fun bt167 => ((spec_FociRange.f k t165).bind fun bt169 => ((spec_JoinKinds.f k bt163.1 bt163.2).bind fun t171 => (if t166 = t171 then ((impl_IsWithin.f k bt163.1 bt163.2).bind fun t172 => ((spec_IsWithin.f bt163.1 bt163.2).bind fun t173 => (if (t172 != t173) = true then (laws_FnKinds.j0 k bt163.1 bt163.2 t165 t166 true) else ((impl_KindText.f t165).bind fun t174 => ((spec_KindText.f t165).bind fun t175 => (if t174.toList = t175.toList then (if bt167.1 = bt169.1 then (if bt167.2 = bt169.2 then ((impl_IsKind.f t165).bind fun t176 => ((spec_IsKind.f t165).bind fun t177 => (if (t176 != t177) = true then (laws_FnKinds.j0 k bt163.1 bt163.2 t165 t166 true) else ((impl_JoinKinds.f k bt163.2 bt163.1).bind fun t178 => (laws_FnKinds.j0 k bt163.1 bt163.2 t165 t166 (t166 != t178)))))) else (laws_FnKinds.j0 k bt163.1 bt163.2 t165 t166 true)) else (laws_FnKinds.j0 k bt163.1 bt163.2 t165 t166 true)) else (laws_FnKinds.j0 k bt163.1 bt163.2 t165 t166 true))))))) else (laws_FnKinds.j0 k bt163.1 bt163.2 t165 t166 true))))))))) = some r := H
  have A2 := Aside0.mk A20
  clear A20
  by_cases c3 : t162 = true
  · subst c3
    have H1 : (some true) = some r := by rw [if_pos rfl] at H; exact H
    clear H
    have H := H1
    clear H1
    obtain rfl := Option.some.inj H
    go_enter Try.func9, Try.ntmps9
    go_wp2_with (first | ((with_reducible refine gate_callee (f := 25) rfl ?_); refine goesL_ (some 12) rfl rfl Try.func25 (by kernel_rfl) rfl #[.slice A0 l0.length c0] rfl (by (try simp only [List.map_toArray, List.map_cons, List.map_nil]); first | done | rfl | (simp only [List.length_drop, List.length_take]; rfl)) ?_; (with_reducible refine (laws_big.calls _ _ l0 true _ ?side1 ?side2 A2.out).mono ?_); (case side1 => repeat (first | exact HR0.out | (with_reducible refine Kd.C_alloc ?_ _) | (with_reducible refine Kd.C_drewN ?_ _) | (with_reducible refine Kd.C_drew ?_))); (case side2 => exact HC0.out); rintro e w' ⟨rfl, ⟨nd, rfl⟩⟩; refine ⟨_, rfl, ?_⟩))
    go_ret
    exact ⟨by first | rfl | (simp [errW_none, errW_some] <;> rfl) | (simp [*, errW_none, errW_some] <;> rfl), by repeat (first | (with_reducible first | exact HB.out | apply below_alloc | apply pw_below_drewN | apply below_drew1) | exact HB.out)⟩
  · replace c3 := Bool.eq_false_iff.mpr c3
    subst c3
    have H1 : ((spec_DrawJoinKinds.f k l0).bind fun bt163 => ((spec_DrawKindText.f k l0).bind fun t165 => ((impl_JoinKinds.f k bt163.1 bt163.2).bind fun t166 => ((impl_FociRange.f k t165).bind fun bt167 => ((spec_FociRange.f k t165).bind fun bt169 => ((spec_JoinKinds.f k bt163.1 bt163.2).bind fun t171 => (if t166 = t171 then ((impl_IsWithin.f k bt163.1 bt163.2).bind fun t172 => ((spec_IsWithin.f bt163.1 bt163.2).bind fun t173 => (if (t172 != t173) = true then (laws_FnKinds.j0 k bt163.1 bt163.2 t165 t166 true) else ((impl_KindText.f t165).bind fun t174 => ((spec_KindText.f t165).bind fun t175 => (if t174.toList = t175.toList then (if bt167.1 = bt169.1 then (if bt167.2 = bt169.2 then ((impl_IsKind.f t165).bind fun t176 => ((spec_IsKind.f t165).bind fun t177 => (if (t176 != t177) = true then (laws_FnKinds.j0 k bt163.1 bt163.2 t165 t166 true) else ((impl_JoinKinds.f k bt163.2 bt163.1).bind fun t178 => (laws_FnKinds.j0 k bt163.1 bt163.2 t165 t166 (t166 != t178)))))) else (laws_FnKinds.j0 k bt163.1 bt163.2 t165 t166 true)) else (laws_FnKinds.j0 k bt163.1 bt163.2 t165 t166 true)) else (laws_FnKinds.j0 k bt163.1 bt163.2 t165 t166 true))))))) else (laws_FnKinds.j0 k bt163.1 bt163.2 t165 t166 true)))))))) = some r := by rw [if_neg (show ¬ (false = true) by decide)] at H; exact H
    clear H
    have H := H1
    clear H1
    replace H := Option.bind_eq_some_iff.mp H
    obtain ⟨⟨t163, t164⟩, A40, H⟩ := H
    replace H : ((spec_DrawKindText.f k l0).bind fun t165 => ((impl_JoinKinds.f k t163 t164).bind fun t166 => ((impl_FociRange.f k t165).bind fun bt167 => ((spec_FociRange.f k t165).bind fun bt169 => ((spec_JoinKinds.f k t163 t164).bind fun t171 => (if t166 = t171 then ((impl_IsWithin.f k t163 t164).bind fun t172 => ((spec_IsWithin.f t163 t164).bind fun t173 => (if (t172 != t173) = true then (laws_FnKinds.j0 k t163 t164 t165 t166 true) else ((impl_KindText.f t165).bind fun t174 => ((spec_KindText.f t165).bind fun t175 => (if t174.toList = t175.toList then (if bt167.1 = bt169.1 then (if bt167.2 = bt169.2 then ((impl_IsKind.f t165).bind fun t176 => ((spec_IsKind.f t165).bind fun t177 => (if (t176 != t177) = true then (laws_FnKinds.j0 k t163 t164 t165 t166 true) else ((impl_JoinKinds.f k t164 t163).bind fun t178 => (laws_FnKinds.j0 k t163 t164 t165 t166 (t166 != t178)))))) else (laws_FnKinds.j0 k t163 t164 t165 t166 true)) else (laws_FnKinds.j0 k t163 t164 t165 t166 true)) else (laws_FnKinds.j0 k t163 t164 t165 t166 true))))))) else (laws_FnKinds.j0 k t163 t164 t165 t166 true))))))) = some r := H
    have A4 := Aside0.mk A40
    clear A40
    replace H := Option.bind_eq_some_iff.mp H
    obtain ⟨t165, A50, H⟩ := H
    replace H : ((impl_JoinKinds.f k t163 t164).bind fun t166 => ((impl_FociRange.f k t165).bind fun bt167 => ((spec_FociRange.f k t165).bind fun bt169 => ((spec_JoinKinds.f k t163 t164).bind fun t171 => (if t166 = t171 then ((impl_IsWithin.f k t163 t164).bind fun t172 => ((spec_IsWithin.f t163 t164).bind fun t173 => (if (t172 != t173) = true then (laws_FnKinds.j0 k t163 t164 t165 t166 true) else ((impl_KindText.f t165).bind fun t174 => ((spec_KindText.f t165).bind fun t175 => (if t174.toList = t175.toList then (if bt167.1 = bt169.1 then (if bt167.2 = bt169.2 then ((impl_IsKind.f t165).bind fun t176 => ((spec_IsKind.f t165).bind fun t177 => (if (t176 != t177) = true then (laws_FnKinds.j0 k t163 t164 t165 t166 true) else ((impl_JoinKinds.f k t164 t163).bind fun t178 => (laws_FnKinds.j0 k t163 t164 t165 t166 (t166 != t178)))))) else (laws_FnKinds.j0 k t163 t164 t165 t166 true)) else (laws_FnKinds.j0 k t163 t164 t165 t166 true)) else (laws_FnKinds.j0 k t163 t164 t165 t166 true))))))) else (laws_FnKinds.j0 k t163 t164 t165 t166 true)))))) = some r := H
    have A5 := Aside0.mk A50
    clear A50
    replace H := Option.bind_eq_some_iff.mp H
    obtain ⟨t166, A60, H⟩ := H
    replace H : ((impl_FociRange.f k t165).bind fun bt167 => ((spec_FociRange.f k t165).bind fun bt169 => ((spec_JoinKinds.f k t163 t164).bind fun t171 => (if t166 = t171 then ((impl_IsWithin.f k t163 t164).bind fun t172 => ((spec_IsWithin.f t163 t164).bind fun t173 => (if (t172 != t173) = true then (laws_FnKinds.j0 k t163 t164 t165 t166 true) else ((impl_KindText.f t165).bind fun t174 => ((spec_KindText.f t165).bind fun t175 => (if t174.toList = t175.toList then (if bt167.1 = bt169.1 then (if bt167.2 = bt169.2 then ((impl_IsKind.f t165).bind fun t176 => ((spec_IsKind.f t165).bind fun t177 => (if (t176 != t177) = true then (laws_FnKinds.j0 k t163 t164 t165 t166 true) else ((impl_JoinKinds.f k t164 t163).bind fun t178 => (laws_FnKinds.j0 k t163 t164 t165 t166 (t166 != t178)))))) else (laws_FnKinds.j0 k t163 t164 t165 t166 true)) else (laws_FnKinds.j0 k t163 t164 t165 t166 true)) else (laws_FnKinds.j0 k t163 t164 t165 t166 true))))))) else (laws_FnKinds.j0 k t163 t164 t165 t166 true))))) = some r := H
    have A6 := Aside0.mk A60
    clear A60
    replace H := Option.bind_eq_some_iff.mp H
    obtain ⟨⟨t167, t168⟩, A70, H⟩ := H
    replace H : ((spec_FociRange.f k t165).bind fun bt169 => ((spec_JoinKinds.f k t163 t164).bind fun t171 => (if t166 = t171 then ((impl_IsWithin.f k t163 t164).bind fun t172 => ((spec_IsWithin.f t163 t164).bind fun t173 => (if (t172 != t173) = true then (laws_FnKinds.j0 k t163 t164 t165 t166 true) else ((impl_KindText.f t165).bind fun t174 => ((spec_KindText.f t165).bind fun t175 => (if t174.toList = t175.toList then (if t167 = bt169.1 then (if t168 = bt169.2 then ((impl_IsKind.f t165).bind fun t176 => ((spec_IsKind.f t165).bind fun t177 => (if (t176 != t177) = true then (laws_FnKinds.j0 k t163 t164 t165 t166 true) else ((impl_JoinKinds.f k t164 t163).bind fun t178 => (laws_FnKinds.j0 k t163 t164 t165 t166 (t166 != t178)))))) else (laws_FnKinds.j0 k t163 t164 t165 t166 true)) else (laws_FnKinds.j0 k t163 t164 t165 t166 true)) else (laws_FnKinds.j0 k t163 t164 t165 t166 true))))))) else (laws_FnKinds.j0 k t163 t164 t165 t166 true)))) = some r := H
    have A7 := Aside0.mk A70
    clear A70
    replace H := Option.bind_eq_some_iff.mp H
    obtain ⟨⟨t169, t170⟩, A80, H⟩ := H
    replace H : ((spec_JoinKinds.f k t163 t164).bind fun t171 => (if t166 = t171 then ((impl_IsWithin.f k t163 t164).bind fun t172 => ((spec_IsWithin.f t163 t164).bind fun t173 => (if (t172 != t173) = true then (laws_FnKinds.j0 k t163 t164 t165 t166 true) else ((impl_KindText.f t165).bind fun t174 => ((spec_KindText.f t165).bind fun t175 => (if t174.toList = t175.toList then (if t167 = t169 then (if t168 = t170 then ((impl_IsKind.f t165).bind fun t176 => ((spec_IsKind.f t165).bind fun t177 => (if (t176 != t177) = true then (laws_FnKinds.j0 k t163 t164 t165 t166 true) else ((impl_JoinKinds.f k t164 t163).bind fun t178 => (laws_FnKinds.j0 k t163 t164 t165 t166 (t166 != t178)))))) else (laws_FnKinds.j0 k t163 t164 t165 t166 true)) else (laws_FnKinds.j0 k t163 t164 t165 t166 true)) else (laws_FnKinds.j0 k t163 t164 t165 t166 true))))))) else (laws_FnKinds.j0 k t163 t164 t165 t166 true))) = some r := H
    have A8 := Aside0.mk A80
    clear A80
    have HC9 := Aside0.mk H
    clear H
    go_enter Try.func9, Try.ntmps9
    go_upto_region 8 with (first | ((with_reducible refine gate_callee (f := 25) rfl ?_); refine goesL_ (some 12) rfl rfl Try.func25 (by kernel_rfl) rfl #[.slice A0 l0.length c0] rfl (by (try simp only [List.map_toArray, List.map_cons, List.map_nil]); first | done | rfl | (simp only [List.length_drop, List.length_take]; rfl)) ?_; (with_reducible refine (laws_big.calls _ _ l0 false _ ?side1 ?side2 A2.out).mono ?_); (case side1 => repeat (first | exact HR0.out | (with_reducible refine Kd.C_alloc ?_ _) | (with_reducible refine Kd.C_drewN ?_ _) | (with_reducible refine Kd.C_drew ?_))); (case side2 => exact HC0.out); rintro e w' ⟨rfl, ⟨nd, rfl⟩⟩; refine ⟨_, rfl, ?_⟩) | ((with_reducible refine gate_callee (f := 26) rfl ?_); refine goesL_ (some 15) rfl rfl Try.func26 (by kernel_rfl) rfl #[.slice A0 l0.length c0] rfl (by (try simp only [List.map_toArray, List.map_cons, List.map_nil]); first | done | rfl | (simp only [List.length_drop, List.length_take]; rfl)) ?_; (with_reducible refine (spec_DrawJoinKinds.calls k _ _ l0 t163 t164 _ ?side1 ?side2 A4.out).mono ?_); (case side1 => repeat (first | exact HR0.out | (with_reducible refine Kd.C_alloc ?_ _) | (with_reducible refine Kd.C_drewN ?_ _) | (with_reducible refine Kd.C_drew ?_))); (case side2 => exact HC0.out); rintro e w10 ⟨rfl, hb⟩; refine ⟨_, rfl, ?_⟩; have n0_ := Aside0.mk (below_step (by repeat (first | (with_reducible first | exact HB.out | apply below_alloc | apply pw_below_drewN | apply below_drew1) | exact HB.out)) hb); clear HB; have HB := n0_; clear n0_; (try clear hb); (try clear hb2); (try clear hk); (try clear hi)) | ((with_reducible refine gate_callee (f := 27) rfl ?_); refine goesL_ (some 19) rfl rfl Try.func27 (by kernel_rfl) rfl #[.slice A0 l0.length c0] rfl (by (try simp only [List.map_toArray, List.map_cons, List.map_nil]); first | done | rfl | (simp only [List.length_drop, List.length_take]; rfl)) ?_; (with_reducible refine (spec_DrawKindText.calls k _ _ l0 t165 _ ?side1 ?side2 A5.out).mono ?_); (case side1 => repeat (first | exact (Kd.C_below HR0.out HB.out) | (with_reducible refine Kd.C_alloc ?_ _) | (with_reducible refine Kd.C_drewN ?_ _) | (with_reducible refine Kd.C_drew ?_))); (case side2 => exact HC0.out); rintro e w11 ⟨rfl, hb⟩; refine ⟨_, rfl, ?_⟩; have n0_ := Aside0.mk (below_step (by repeat (first | (with_reducible first | exact HB.out | apply below_alloc | apply pw_below_drewN | apply below_drew1) | exact HB.out)) hb); clear HB; have HB := n0_; clear n0_; (try clear hb); (try clear hb2); (try clear hk); (try clear hi)) | ((with_reducible refine gate_callee (f := 28) rfl ?_); refine goesL_ (some 22) rfl rfl Try.func28 (by kernel_rfl) rfl #[.int .i64 t163, .int .i64 t164] rfl (by (try simp only [List.map_toArray, List.map_cons, List.map_nil]); first | done | rfl | (simp only [List.length_drop, List.length_take]; rfl)) ?_; (with_reducible refine (impl_JoinKinds.calls k t163 t164 t166 _ A6.out).mono ?_); rintro e w' ⟨rfl, ⟨nd, rfl⟩⟩; refine ⟨_, rfl, ?_⟩) | ((with_reducible refine gate_callee (f := 22) rfl ?_); refine goesL_ (some 25) rfl rfl Try.func22 (by kernel_rfl) rfl #[.int .i64 t165] rfl (by (try simp only [List.map_toArray, List.map_cons, List.map_nil]); first | done | rfl | (simp only [List.length_drop, List.length_take]; rfl)) ?_; (with_reducible refine (impl_FociRange.calls k t165 t167 t168 _ A7.out).mono ?_); rintro e w' ⟨rfl, ⟨nd, rfl⟩⟩; refine ⟨_, rfl, ?_⟩) | ((with_reducible refine gate_callee (f := 21) rfl ?_); refine goesL_ (some 30) rfl rfl Try.func21 (by kernel_rfl) rfl #[.int .i64 t165] rfl (by (try simp only [List.map_toArray, List.map_cons, List.map_nil]); first | done | rfl | (simp only [List.length_drop, List.length_take]; rfl)) ?_; (with_reducible refine (spec_FociRange.calls k t165 t169 t170 _ A8.out).mono ?_); rintro e w' ⟨rfl, ⟨nd, rfl⟩⟩; refine ⟨_, rfl, ?_⟩))
    (try simp only [Act.put, List.setIfInBounds_toArray, List.set_cons_zero, List.set_cons_succ])
    go_cut [77] (fun v77 wc => ∃ (kq : Nat) (x77_8 : Bool), v77 = .bool x77_8 ∧ Aside0 (laws_FnKinds.j0 kq t163 t164 t165 t166 x77_8 = some r) ∧ Aside0 (kq ≤ k) ∧ Aside0 (Below w.heap.size w wc))
    case first =>
      have H := HC9.out
      clear HC9
      replace H := Option.bind_eq_some_iff.mp H
      obtain ⟨t171, A120, H⟩ := H
      replace H : (if t166 = t171 then ((impl_IsWithin.f k t163 t164).bind fun t172 => ((spec_IsWithin.f t163 t164).bind fun t173 => (if (t172 != t173) = true then (laws_FnKinds.j0 k t163 t164 t165 t166 true) else ((impl_KindText.f t165).bind fun t174 => ((spec_KindText.f t165).bind fun t175 => (if t174.toList = t175.toList then (if t167 = t169 then (if t168 = t170 then ((impl_IsKind.f t165).bind fun t176 => ((spec_IsKind.f t165).bind fun t177 => (if (t176 != t177) = true then (laws_FnKinds.j0 k t163 t164 t165 t166 true) else ((impl_JoinKinds.f k t164 t163).bind fun t178 => (laws_FnKinds.j0 k t163 t164 t165 t166 (t166 != t178)))))) else (laws_FnKinds.j0 k t163 t164 t165 t166 true)) else (laws_FnKinds.j0 k t163 t164 t165 t166 true)) else (laws_FnKinds.j0 k t163 t164 t165 t166 true))))))) else (laws_FnKinds.j0 k t163 t164 t165 t166 true)) = some r := H
      have A12 := Aside0.mk A120
      clear A120
      by_cases c13 : t166 = t171
      · rw [if_pos c13] at H
        have c13b0 : (t166 == t171) = true := beq_iff_eq.mpr c13
        have c13b1 : (t166 != t171) = false := bne_eq_false_iff_eq.mpr c13
        clear c13
        (first | rw [c13b0] | (simp only [i64_w, i32_w]; rw [c13b0]) | skip)
        replace H := Option.bind_eq_some_iff.mp H
        obtain ⟨t172, A140, H⟩ := H
        replace H : ((spec_IsWithin.f t163 t164).bind fun t173 => (if (t172 != t173) = true then (laws_FnKinds.j0 k t163 t164 t165 t166 true) else ((impl_KindText.f t165).bind fun t174 => ((spec_KindText.f t165).bind fun t175 => (if t174.toList = t175.toList then (if t167 = t169 then (if t168 = t170 then ((impl_IsKind.f t165).bind fun t176 => ((spec_IsKind.f t165).bind fun t177 => (if (t176 != t177) = true then (laws_FnKinds.j0 k t163 t164 t165 t166 true) else ((impl_JoinKinds.f k t164 t163).bind fun t178 => (laws_FnKinds.j0 k t163 t164 t165 t166 (t166 != t178)))))) else (laws_FnKinds.j0 k t163 t164 t165 t166 true)) else (laws_FnKinds.j0 k t163 t164 t165 t166 true)) else (laws_FnKinds.j0 k t163 t164 t165 t166 true)))))) = some r := H
        have A14 := Aside0.mk A140
        clear A140
        replace H := Option.bind_eq_some_iff.mp H
        obtain ⟨t173, A150, H⟩ := H
        replace H : (if (t172 != t173) = true then (laws_FnKinds.j0 k t163 t164 t165 t166 true) else ((impl_KindText.f t165).bind fun t174 => ((spec_KindText.f t165).bind fun t175 => (if t174.toList = t175.toList then (if t167 = t169 then (if t168 = t170 then ((impl_IsKind.f t165).bind fun t176 => ((spec_IsKind.f t165).bind fun t177 => (if (t176 != t177) = true then (laws_FnKinds.j0 k t163 t164 t165 t166 true) else ((impl_JoinKinds.f k t164 t163).bind fun t178 => (laws_FnKinds.j0 k t163 t164 t165 t166 (t166 != t178)))))) else (laws_FnKinds.j0 k t163 t164 t165 t166 true)) else (laws_FnKinds.j0 k t163 t164 t165 t166 true)) else (laws_FnKinds.j0 k t163 t164 t165 t166 true))))) = some r := H
        have A15 := Aside0.mk A150
        clear A150
        by_cases c16 : (t172 != t173) = true
        · rw [if_pos c16] at H
          have c16b0 : (t172 != t173) = true := c16
          (try (have c16b1 : decide (t172 = t173) = false := by simpa using c16))
          (try (have c16b2 : (t172 == t173) = false := by simpa using c16))
          (try (have c16b3 : ¬ (t172 = t173) := by simpa using c16))
          clear c16
          have H' := Aside0.mk H
          clear H
          go_wp2_with (first | ((with_reducible refine gate_callee (f := 29) rfl ?_); refine goesL_ (some 36) rfl rfl Try.func29 (by kernel_rfl) rfl #[.int .i64 t163, .int .i64 t164] rfl (by (try simp only [List.map_toArray, List.map_cons, List.map_nil]); first | done | rfl | (simp only [List.length_drop, List.length_take]; rfl)) ?_; (with_reducible refine (spec_JoinKinds.calls k t163 t164 t171 _ A12.out).mono ?_); rintro e w' ⟨rfl, ⟨nd, rfl⟩⟩; refine ⟨_, rfl, ?_⟩) | (go_at_call 20; (with_reducible refine (impl_IsWithin.calls k t163 t164 t172 _ A14.out).mono ?_); rintro e w' ⟨rfl, ⟨nd, rfl⟩⟩) | (go_at_call 19; (with_reducible refine (spec_IsWithin.calls t163 t164 t173 _ A15.out).mono ?_); rintro e w' ⟨rfl, ⟨nd, rfl⟩⟩))
          go_meet
          case rel => exact ⟨_, (true), (by first | rfl | (simp; done) | (simp [*]; done)), H', ⟨by first | omega | exact Nat.le_refl _⟩, ⟨by repeat (first | (with_reducible first | exact HB.out | apply below_alloc | apply pw_below_drewN | apply below_drew1) | exact HB.out)⟩⟩
        · rw [if_neg c16] at H
          have c16b0 : (t172 != t173) = false := by simpa using c16
          (try (have c16b1 : decide (t172 = t173) = true := by simpa using c16))
          (try (have c16b2 : (t172 == t173) = true := by simpa using c16))
          clear c16
          replace H := Option.bind_eq_some_iff.mp H
          obtain ⟨t174, A170, H⟩ := H
          replace H : ((spec_KindText.f t165).bind fun t175 => (if t174.toList = t175.toList then (if t167 = t169 then (if t168 = t170 then ((impl_IsKind.f t165).bind fun t176 => ((spec_IsKind.f t165).bind fun t177 => (if (t176 != t177) = true then (laws_FnKinds.j0 k t163 t164 t165 t166 true) else ((impl_JoinKinds.f k t164 t163).bind fun t178 => (laws_FnKinds.j0 k t163 t164 t165 t166 (t166 != t178)))))) else (laws_FnKinds.j0 k t163 t164 t165 t166 true)) else (laws_FnKinds.j0 k t163 t164 t165 t166 true)) else (laws_FnKinds.j0 k t163 t164 t165 t166 true))) = some r := H
          have A17 := Aside0.mk A170
          clear A170
          replace H := Option.bind_eq_some_iff.mp H
          obtain ⟨t175, A180, H⟩ := H
          replace H : (if t174.toList = t175.toList then (if t167 = t169 then (if t168 = t170 then ((impl_IsKind.f t165).bind fun t176 => ((spec_IsKind.f t165).bind fun t177 => (if (t176 != t177) = true then (laws_FnKinds.j0 k t163 t164 t165 t166 true) else ((impl_JoinKinds.f k t164 t163).bind fun t178 => (laws_FnKinds.j0 k t163 t164 t165 t166 (t166 != t178)))))) else (laws_FnKinds.j0 k t163 t164 t165 t166 true)) else (laws_FnKinds.j0 k t163 t164 t165 t166 true)) else (laws_FnKinds.j0 k t163 t164 t165 t166 true)) = some r := H
          have A18 := Aside0.mk A180
          clear A180
          by_cases c19 : t174.toList = t175.toList
          · rw [if_pos c19] at H
            have c19b0 : (t174.toList == t175.toList) = true := beq_iff_eq.mpr c19
            have c19b1 : (t174.toList != t175.toList) = false := bne_eq_false_iff_eq.mpr c19
            clear c19
            by_cases c20 : t167 = t169
            · rw [if_pos c20] at H
              have c20b0 : (t167 == t169) = true := beq_iff_eq.mpr c20
              have c20b1 : (t167 != t169) = false := bne_eq_false_iff_eq.mpr c20
              clear c20
              by_cases c21 : t168 = t170
              · rw [if_pos c21] at H
                have c21b0 : (t168 == t170) = true := beq_iff_eq.mpr c21
                have c21b1 : (t168 != t170) = false := bne_eq_false_iff_eq.mpr c21
                clear c21
                replace H := Option.bind_eq_some_iff.mp H
                obtain ⟨t176, A220, H⟩ := H
                replace H : ((spec_IsKind.f t165).bind fun t177 => (if (t176 != t177) = true then (laws_FnKinds.j0 k t163 t164 t165 t166 true) else ((impl_JoinKinds.f k t164 t163).bind fun t178 => (laws_FnKinds.j0 k t163 t164 t165 t166 (t166 != t178))))) = some r := H
                have A22 := Aside0.mk A220
                clear A220
                replace H := Option.bind_eq_some_iff.mp H
                obtain ⟨t177, A230, H⟩ := H
                replace H : (if (t176 != t177) = true then (laws_FnKinds.j0 k t163 t164 t165 t166 true) else ((impl_JoinKinds.f k t164 t163).bind fun t178 => (laws_FnKinds.j0 k t163 t164 t165 t166 (t166 != t178)))) = some r := H
                have A23 := Aside0.mk A230
                clear A230
                by_cases c24 : (t176 != t177) = true
                · rw [if_pos c24] at H
                  have c24b0 : (t176 != t177) = true := c24
                  (try (have c24b1 : decide (t176 = t177) = false := by simpa using c24))
                  (try (have c24b2 : (t176 == t177) = false := by simpa using c24))
                  (try (have c24b3 : ¬ (t176 = t177) := by simpa using c24))
                  clear c24
                  have H' := Aside0.mk H
                  clear H
                  go_wp2_with (first | ((with_reducible refine gate_callee (f := 29) rfl ?_); refine goesL_ (some 36) rfl rfl Try.func29 (by kernel_rfl) rfl #[.int .i64 t163, .int .i64 t164] rfl (by (try simp only [List.map_toArray, List.map_cons, List.map_nil]); first | done | rfl | (simp only [List.length_drop, List.length_take]; rfl)) ?_; (with_reducible refine (spec_JoinKinds.calls k t163 t164 t171 _ A12.out).mono ?_); rintro e w' ⟨rfl, ⟨nd, rfl⟩⟩; refine ⟨_, rfl, ?_⟩) | (go_at_call 20; (with_reducible refine (impl_IsWithin.calls k t163 t164 t172 _ A14.out).mono ?_); rintro e w' ⟨rfl, ⟨nd, rfl⟩⟩) | (go_at_call 19; (with_reducible refine (spec_IsWithin.calls t163 t164 t173 _ A15.out).mono ?_); rintro e w' ⟨rfl, ⟨nd, rfl⟩⟩) | (go_at_call 18; (with_reducible refine (impl_KindText.calls t165 t174 _ A17.out).mono ?_); rintro e w25 ⟨rfl, hb⟩; have n0_ := Aside0.mk (below_step (by repeat (first | (with_reducible first | exact HB.out | apply below_alloc | apply pw_below_drewN | apply below_drew1) | exact HB.out)) hb); clear HB; have HB := n0_; clear n0_; (try clear hb); (try clear hb2); (try clear hk); (try clear hi)) | (go_at_call 17; (with_reducible refine (spec_KindText.calls t165 t175 _ A18.out).mono ?_); rintro e w26 ⟨rfl, hb⟩; have n0_ := Aside0.mk (below_step (by repeat (first | (with_reducible first | exact HB.out | apply below_alloc | apply pw_below_drewN | apply below_drew1) | exact HB.out)) hb); clear HB; have HB := n0_; clear n0_; (try clear hb); (try clear hb2); (try clear hk); (try clear hi)) | (go_at_call 16; (with_reducible refine (impl_IsKind.calls t165 t176 _ A22.out).mono ?_); rintro e w' ⟨rfl, ⟨nd, rfl⟩⟩) | (go_at_call 15; (with_reducible refine (spec_IsKind.calls t165 t177 _ A23.out).mono ?_); rintro e w' ⟨rfl, ⟨nd, rfl⟩⟩))
                  go_meet
                  case rel => exact ⟨_, (true), (by first | rfl | (simp; done) | (simp [*]; done)), H', ⟨by first | omega | exact Nat.le_refl _⟩, ⟨by repeat (first | (with_reducible first | exact HB.out | apply below_alloc | apply pw_below_drewN | apply below_drew1) | exact HB.out)⟩⟩
                · rw [if_neg c24] at H
                  have c24b0 : (t176 != t177) = false := by simpa using c24
                  (try (have c24b1 : decide (t176 = t177) = true := by simpa using c24))
                  (try (have c24b2 : (t176 == t177) = true := by simpa using c24))
                  clear c24
                  replace H := Option.bind_eq_some_iff.mp H
                  obtain ⟨t178, A270, H⟩ := H
                  replace H : (laws_FnKinds.j0 k t163 t164 t165 t166 (t166 != t178)) = some r := H
                  have A27 := Aside0.mk A270
                  clear A270
                  have H' := Aside0.mk H
                  clear H
                  go_wp2_with (first | ((with_reducible refine gate_callee (f := 29) rfl ?_); refine goesL_ (some 36) rfl rfl Try.func29 (by kernel_rfl) rfl #[.int .i64 t163, .int .i64 t164] rfl (by (try simp only [List.map_toArray, List.map_cons, List.map_nil]); first | done | rfl | (simp only [List.length_drop, List.length_take]; rfl)) ?_; (with_reducible refine (spec_JoinKinds.calls k t163 t164 t171 _ A12.out).mono ?_); rintro e w' ⟨rfl, ⟨nd, rfl⟩⟩; refine ⟨_, rfl, ?_⟩) | (go_at_call 20; (with_reducible refine (impl_IsWithin.calls k t163 t164 t172 _ A14.out).mono ?_); rintro e w' ⟨rfl, ⟨nd, rfl⟩⟩) | (go_at_call 19; (with_reducible refine (spec_IsWithin.calls t163 t164 t173 _ A15.out).mono ?_); rintro e w' ⟨rfl, ⟨nd, rfl⟩⟩) | (go_at_call 18; (with_reducible refine (impl_KindText.calls t165 t174 _ A17.out).mono ?_); rintro e w28 ⟨rfl, hb⟩; have n0_ := Aside0.mk (below_step (by repeat (first | (with_reducible first | exact HB.out | apply below_alloc | apply pw_below_drewN | apply below_drew1) | exact HB.out)) hb); clear HB; have HB := n0_; clear n0_; (try clear hb); (try clear hb2); (try clear hk); (try clear hi)) | (go_at_call 17; (with_reducible refine (spec_KindText.calls t165 t175 _ A18.out).mono ?_); rintro e w29 ⟨rfl, hb⟩; have n0_ := Aside0.mk (below_step (by repeat (first | (with_reducible first | exact HB.out | apply below_alloc | apply pw_below_drewN | apply below_drew1) | exact HB.out)) hb); clear HB; have HB := n0_; clear n0_; (try clear hb); (try clear hb2); (try clear hk); (try clear hi)) | (go_at_call 16; (with_reducible refine (impl_IsKind.calls t165 t176 _ A22.out).mono ?_); rintro e w' ⟨rfl, ⟨nd, rfl⟩⟩) | (go_at_call 15; (with_reducible refine (spec_IsKind.calls t165 t177 _ A23.out).mono ?_); rintro e w' ⟨rfl, ⟨nd, rfl⟩⟩) | (go_at_call 28; (with_reducible refine (impl_JoinKinds.calls k t164 t163 t178 _ A27.out).mono ?_); rintro e w' ⟨rfl, ⟨nd, rfl⟩⟩))
                  go_meet
                  case rel => exact ⟨_, ((t166 != t178)), (by first | rfl | (simp; done) | (simp [*]; done)), H', ⟨by first | omega | exact Nat.le_refl _⟩, ⟨by repeat (first | (with_reducible first | exact HB.out | apply below_alloc | apply pw_below_drewN | apply below_drew1) | exact HB.out)⟩⟩
              · rw [if_neg c21] at H
                have c21b0 : (t168 == t170) = false := beq_eq_false_iff_ne.mpr c21
                have c21b1 : (t168 != t170) = true := bne_iff_ne.mpr c21
                have H' := Aside0.mk H
                clear H
                go_wp2_with (first | ((with_reducible refine gate_callee (f := 29) rfl ?_); refine goesL_ (some 36) rfl rfl Try.func29 (by kernel_rfl) rfl #[.int .i64 t163, .int .i64 t164] rfl (by (try simp only [List.map_toArray, List.map_cons, List.map_nil]); first | done | rfl | (simp only [List.length_drop, List.length_take]; rfl)) ?_; (with_reducible refine (spec_JoinKinds.calls k t163 t164 t171 _ A12.out).mono ?_); rintro e w' ⟨rfl, ⟨nd, rfl⟩⟩; refine ⟨_, rfl, ?_⟩) | (go_at_call 20; (with_reducible refine (impl_IsWithin.calls k t163 t164 t172 _ A14.out).mono ?_); rintro e w' ⟨rfl, ⟨nd, rfl⟩⟩) | (go_at_call 19; (with_reducible refine (spec_IsWithin.calls t163 t164 t173 _ A15.out).mono ?_); rintro e w' ⟨rfl, ⟨nd, rfl⟩⟩) | (go_at_call 18; (with_reducible refine (impl_KindText.calls t165 t174 _ A17.out).mono ?_); rintro e w30 ⟨rfl, hb⟩; have n0_ := Aside0.mk (below_step (by repeat (first | (with_reducible first | exact HB.out | apply below_alloc | apply pw_below_drewN | apply below_drew1) | exact HB.out)) hb); clear HB; have HB := n0_; clear n0_; (try clear hb); (try clear hb2); (try clear hk); (try clear hi)) | (go_at_call 17; (with_reducible refine (spec_KindText.calls t165 t175 _ A18.out).mono ?_); rintro e w31 ⟨rfl, hb⟩; have n0_ := Aside0.mk (below_step (by repeat (first | (with_reducible first | exact HB.out | apply below_alloc | apply pw_below_drewN | apply below_drew1) | exact HB.out)) hb); clear HB; have HB := n0_; clear n0_; (try clear hb); (try clear hb2); (try clear hk); (try clear hi)))
                go_meet
                case rel => exact ⟨_, (true), (by first | rfl | (simp; done) | (simp [*]; done)), H', ⟨by first | omega | exact Nat.le_refl _⟩, ⟨by repeat (first | (with_reducible first | exact HB.out | apply below_alloc | apply pw_below_drewN | apply below_drew1) | exact HB.out)⟩⟩
            · rw [if_neg c20] at H
              have c20b0 : (t167 == t169) = false := beq_eq_false_iff_ne.mpr c20
              have c20b1 : (t167 != t169) = true := bne_iff_ne.mpr c20
              have H' := Aside0.mk H
              clear H
              go_wp2_with (first | ((with_reducible refine gate_callee (f := 29) rfl ?_); refine goesL_ (some 36) rfl rfl Try.func29 (by kernel_rfl) rfl #[.int .i64 t163, .int .i64 t164] rfl (by (try simp only [List.map_toArray, List.map_cons, List.map_nil]); first | done | rfl | (simp only [List.length_drop, List.length_take]; rfl)) ?_; (with_reducible refine (spec_JoinKinds.calls k t163 t164 t171 _ A12.out).mono ?_); rintro e w' ⟨rfl, ⟨nd, rfl⟩⟩; refine ⟨_, rfl, ?_⟩) | (go_at_call 20; (with_reducible refine (impl_IsWithin.calls k t163 t164 t172 _ A14.out).mono ?_); rintro e w' ⟨rfl, ⟨nd, rfl⟩⟩) | (go_at_call 19; (with_reducible refine (spec_IsWithin.calls t163 t164 t173 _ A15.out).mono ?_); rintro e w' ⟨rfl, ⟨nd, rfl⟩⟩) | (go_at_call 18; (with_reducible refine (impl_KindText.calls t165 t174 _ A17.out).mono ?_); rintro e w32 ⟨rfl, hb⟩; have n0_ := Aside0.mk (below_step (by repeat (first | (with_reducible first | exact HB.out | apply below_alloc | apply pw_below_drewN | apply below_drew1) | exact HB.out)) hb); clear HB; have HB := n0_; clear n0_; (try clear hb); (try clear hb2); (try clear hk); (try clear hi)) | (go_at_call 17; (with_reducible refine (spec_KindText.calls t165 t175 _ A18.out).mono ?_); rintro e w33 ⟨rfl, hb⟩; have n0_ := Aside0.mk (below_step (by repeat (first | (with_reducible first | exact HB.out | apply below_alloc | apply pw_below_drewN | apply below_drew1) | exact HB.out)) hb); clear HB; have HB := n0_; clear n0_; (try clear hb); (try clear hb2); (try clear hk); (try clear hi)))
              go_meet
              case rel => exact ⟨_, (true), (by first | rfl | (simp; done) | (simp [*]; done)), H', ⟨by first | omega | exact Nat.le_refl _⟩, ⟨by repeat (first | (with_reducible first | exact HB.out | apply below_alloc | apply pw_below_drewN | apply below_drew1) | exact HB.out)⟩⟩
          · rw [if_neg c19] at H
            have c19b0 : (t174.toList == t175.toList) = false := beq_eq_false_iff_ne.mpr c19
            have c19b1 : (t174.toList != t175.toList) = true := bne_iff_ne.mpr c19
            have H' := Aside0.mk H
            clear H
            go_wp2_with (first | ((with_reducible refine gate_callee (f := 29) rfl ?_); refine goesL_ (some 36) rfl rfl Try.func29 (by kernel_rfl) rfl #[.int .i64 t163, .int .i64 t164] rfl (by (try simp only [List.map_toArray, List.map_cons, List.map_nil]); first | done | rfl | (simp only [List.length_drop, List.length_take]; rfl)) ?_; (with_reducible refine (spec_JoinKinds.calls k t163 t164 t171 _ A12.out).mono ?_); rintro e w' ⟨rfl, ⟨nd, rfl⟩⟩; refine ⟨_, rfl, ?_⟩) | (go_at_call 20; (with_reducible refine (impl_IsWithin.calls k t163 t164 t172 _ A14.out).mono ?_); rintro e w' ⟨rfl, ⟨nd, rfl⟩⟩) | (go_at_call 19; (with_reducible refine (spec_IsWithin.calls t163 t164 t173 _ A15.out).mono ?_); rintro e w' ⟨rfl, ⟨nd, rfl⟩⟩) | (go_at_call 18; (with_reducible refine (impl_KindText.calls t165 t174 _ A17.out).mono ?_); rintro e w34 ⟨rfl, hb⟩; have n0_ := Aside0.mk (below_step (by repeat (first | (with_reducible first | exact HB.out | apply below_alloc | apply pw_below_drewN | apply below_drew1) | exact HB.out)) hb); clear HB; have HB := n0_; clear n0_; (try clear hb); (try clear hb2); (try clear hk); (try clear hi)) | (go_at_call 17; (with_reducible refine (spec_KindText.calls t165 t175 _ A18.out).mono ?_); rintro e w35 ⟨rfl, hb⟩; have n0_ := Aside0.mk (below_step (by repeat (first | (with_reducible first | exact HB.out | apply below_alloc | apply pw_below_drewN | apply below_drew1) | exact HB.out)) hb); clear HB; have HB := n0_; clear n0_; (try clear hb); (try clear hb2); (try clear hk); (try clear hi)))
            go_meet
            case rel => exact ⟨_, (true), (by first | rfl | (simp; done) | (simp [*]; done)), H', ⟨by first | omega | exact Nat.le_refl _⟩, ⟨by repeat (first | (with_reducible first | exact HB.out | apply below_alloc | apply pw_below_drewN | apply below_drew1) | exact HB.out)⟩⟩
      · rw [if_neg c13] at H
        have c13b0 : (t166 == t171) = false := beq_eq_false_iff_ne.mpr c13
        have c13b1 : (t166 != t171) = true := bne_iff_ne.mpr c13
        (first | rw [c13b0] | (simp only [i64_w, i32_w]; rw [c13b0]) | skip)
        have H' := Aside0.mk H
        clear H
        go_wp2_with (first | ((with_reducible refine gate_callee (f := 29) rfl ?_); refine goesL_ (some 36) rfl rfl Try.func29 (by kernel_rfl) rfl #[.int .i64 t163, .int .i64 t164] rfl (by (try simp only [List.map_toArray, List.map_cons, List.map_nil]); first | done | rfl | (simp only [List.length_drop, List.length_take]; rfl)) ?_; (with_reducible refine (spec_JoinKinds.calls k t163 t164 t171 _ A12.out).mono ?_); rintro e w' ⟨rfl, ⟨nd, rfl⟩⟩; refine ⟨_, rfl, ?_⟩))
        go_meet
        case rel => exact ⟨_, (true), (by first | rfl | (simp; done) | (simp [*]; done)), H', ⟨by first | omega | exact Nat.le_refl _⟩, ⟨by repeat (first | (with_reducible first | exact HB.out | apply below_alloc | apply pw_below_drewN | apply below_drew1) | exact HB.out)⟩⟩
    case rest =>
      clear HC9
      try clear c1
      try clear c2
      try clear p2
      try clear c3
      try clear c9
      try clear c13
      try clear c13b0
      try clear c13b1
      try clear c16
      try clear c16b0
      try clear c16b1
      try clear c16b2
      try clear c19
      try clear c19b0
      try clear c19b1
      try clear c20
      try clear c20b0
      try clear c20b1
      try clear c21
      try clear c21b0
      try clear c21b1
      try clear c22
      try clear c24
      try clear c24b0
      try clear c24b1
      try clear c24b2
      try clear c25
      try clear c26
      try clear c27
      try clear c28
      try clear c29
      obtain ⟨kq, x77_8, rfl, HA, HJ8, HB⟩ := hcut
      cases kq with
      | zero => exact absurd HA.out (by simp [laws_FnKinds.j0])
      | succ kj8 =>
        have H := HA.out
        clear HA
        simp only [laws_FnKinds.j0] at H
        by_cases c36 : x77_8 = true
        · subst c36
          have H1 : (some false) = some r := by rw [if_pos rfl] at H; exact H
          clear H
          have H := H1
          clear H1
          obtain rfl := Option.some.inj H
          go_wp2
          go_ret
          exact ⟨by first | rfl | (simp [errW_none, errW_some] <;> rfl) | (simp [*, errW_none, errW_some] <;> rfl), by repeat (first | (with_reducible first | exact HB.out | apply below_alloc | apply pw_below_drewN | apply below_drew1) | exact HB.out)⟩
        · replace c36 := Bool.eq_false_iff.mpr c36
          subst c36
          have H1 : ((impl_IsKind.f t163).bind fun t179 => (if t179 = true then ((impl_IsKind.f t164).bind fun t180 => (laws_FnKinds.j1 kj8 t163 t164 t165 t166 (!t180))) else (laws_FnKinds.j1 kj8 t163 t164 t165 t166 true))) = some r := by rw [if_neg (show ¬ (false = true) by decide)] at H; exact H
          clear H
          have H := H1
          clear H1
          have HC37 := Aside0.mk H
          clear H
          go_upto_region 10 with (fail)
          go_cut [85] (fun v85 wc => ∃ (kq : Nat) (x85_36 : Bool), v85 = .bool x85_36 ∧ Aside0 (laws_FnKinds.j1 kq t163 t164 t165 t166 x85_36 = some r) ∧ Aside0 (kq ≤ kj8) ∧ Aside0 (Below w.heap.size w wc))
          case first =>
            have H := HC37.out
            clear HC37
            replace H := Option.bind_eq_some_iff.mp H
            obtain ⟨t179, A380, H⟩ := H
            replace H : (if t179 = true then ((impl_IsKind.f t164).bind fun t180 => (laws_FnKinds.j1 kj8 t163 t164 t165 t166 (!t180))) else (laws_FnKinds.j1 kj8 t163 t164 t165 t166 true)) = some r := H
            have A38 := Aside0.mk A380
            clear A380
            by_cases c39 : t179 = true
            · subst c39
              have H1 : ((impl_IsKind.f t164).bind fun t180 => (laws_FnKinds.j1 kj8 t163 t164 t165 t166 (!t180))) = some r := by rw [if_pos rfl] at H; exact H
              clear H
              have H := H1
              clear H1
              replace H := Option.bind_eq_some_iff.mp H
              obtain ⟨t180, A400, H⟩ := H
              replace H : (laws_FnKinds.j1 kj8 t163 t164 t165 t166 (!t180)) = some r := H
              have A40 := Aside0.mk A400
              clear A400
              have H' := Aside0.mk H
              clear H
              go_wp2_with (first | ((with_reducible refine gate_callee (f := 16) rfl ?_); refine goesL_ (some 79) rfl rfl Try.func16 (by kernel_rfl) rfl #[.int .i64 t163] rfl (by (try simp only [List.map_toArray, List.map_cons, List.map_nil]); first | done | rfl | (simp only [List.length_drop, List.length_take]; rfl)) ?_; (with_reducible refine (impl_IsKind.calls t163 true _ A38.out).mono ?_); rintro e w' ⟨rfl, ⟨nd, rfl⟩⟩; refine ⟨_, rfl, ?_⟩) | (go_at_call 16; (with_reducible refine (impl_IsKind.calls t164 t180 _ A40.out).mono ?_); rintro e w' ⟨rfl, ⟨nd, rfl⟩⟩))
              go_meet
              case rel => exact ⟨_, (!t180), (by first | rfl | (simp; done) | (simp [*]; done)), H', ⟨by have := HJ8.out; first | omega | exact Nat.le_refl _⟩, ⟨by repeat (first | (with_reducible first | exact HB.out | apply below_alloc | apply pw_below_drewN | apply below_drew1) | exact HB.out)⟩⟩
            · replace c39 := Bool.eq_false_iff.mpr c39
              subst c39
              have H1 : (laws_FnKinds.j1 kj8 t163 t164 t165 t166 true) = some r := by rw [if_neg (show ¬ (false = true) by decide)] at H; exact H
              clear H
              have H := H1
              clear H1
              have H' := Aside0.mk H
              clear H
              go_wp2_with (first | ((with_reducible refine gate_callee (f := 16) rfl ?_); refine goesL_ (some 79) rfl rfl Try.func16 (by kernel_rfl) rfl #[.int .i64 t163] rfl (by (try simp only [List.map_toArray, List.map_cons, List.map_nil]); first | done | rfl | (simp only [List.length_drop, List.length_take]; rfl)) ?_; (with_reducible refine (impl_IsKind.calls t163 false _ A38.out).mono ?_); rintro e w' ⟨rfl, ⟨nd, rfl⟩⟩; refine ⟨_, rfl, ?_⟩))
              go_meet
              case rel => exact ⟨_, (true), (by first | rfl | (simp; done) | (simp [*]; done)), H', ⟨by have := HJ8.out; first | omega | exact Nat.le_refl _⟩, ⟨by repeat (first | (with_reducible first | exact HB.out | apply below_alloc | apply pw_below_drewN | apply below_drew1) | exact HB.out)⟩⟩
          case rest =>
            clear HC37
            try clear c1
            try clear c2
            try clear p2
            try clear c3
            try clear c9
            try clear c13
            try clear c13b0
            try clear c13b1
            try clear c16
            try clear c16b0
            try clear c16b1
            try clear c16b2
            try clear c19
            try clear c19b0
            try clear c19b1
            try clear c20
            try clear c20b0
            try clear c20b1
            try clear c21
            try clear c21b0
            try clear c21b1
            try clear c22
            try clear c24
            try clear c24b0
            try clear c24b1
            try clear c24b2
            try clear c25
            try clear c26
            try clear c27
            try clear c28
            try clear c29
            try clear c36
            try clear c39
            try clear p2
            obtain ⟨kq, x85_36, rfl, HA, HJ36, HB⟩ := hcut
            cases kq with
            | zero => exact absurd HA.out (by simp [laws_FnKinds.j1])
            | succ kj36 =>
              have H := HA.out
              clear HA
              simp only [laws_FnKinds.j1] at H
              by_cases c41 : x85_36 = true
              · subst c41
                have H1 : (some (t166 == 0)) = some r := by rw [if_pos rfl] at H; exact H
                clear H
                have H := H1
                clear H1
                obtain rfl := Option.some.inj H
                go_wp2
                go_ret
                exact ⟨by first | rfl | (simp [errW_none, errW_some] <;> rfl) | (simp [*, errW_none, errW_some] <;> rfl), by repeat (first | (with_reducible first | exact HB.out | apply below_alloc | apply pw_below_drewN | apply below_drew1) | exact HB.out)⟩
              · replace c41 := Bool.eq_false_iff.mpr c41
                subst c41
                have H1 : ((impl_IsWithin.f kj36 t163 t166).bind fun t181 => (if t181 = true then ((impl_IsWithin.f kj36 t164 t166).bind fun t182 => (if t182 = true then ((impl_IsWithin.f kj36 t163 t164).bind fun t183 => (if t183 = true then ((impl_IsWithin.f kj36 t164 t163).bind fun t184 => (if t184 = true then (laws_FnKinds.j2 kj36 t163 t164 t165 t166 (t163 != t164)) else (laws_FnKinds.j2 kj36 t163 t164 t165 t166 false))) else (laws_FnKinds.j2 kj36 t163 t164 t165 t166 false))) else (laws_FnKinds.j2 kj36 t163 t164 t165 t166 true))) else (laws_FnKinds.j2 kj36 t163 t164 t165 t166 true))) = some r := by rw [if_neg (show ¬ (false = true) by decide)] at H; exact H
                clear H
                have H := H1
                clear H1
                have HC42 := Aside0.mk H
                clear H
                go_upto_region 12 with (fail)
                go_cut [112] (fun v112 wc => ∃ (kq : Nat) (x112_41 : Bool), v112 = .bool x112_41 ∧ Aside0 (laws_FnKinds.j2 kq t163 t164 t165 t166 x112_41 = some r) ∧ Aside0 (kq ≤ kj36) ∧ Aside0 (Below w.heap.size w wc))
                case first =>
                  have H := HC42.out
                  clear HC42
                  replace H := Option.bind_eq_some_iff.mp H
                  obtain ⟨t181, A430, H⟩ := H
                  replace H : (if t181 = true then ((impl_IsWithin.f kj36 t164 t166).bind fun t182 => (if t182 = true then ((impl_IsWithin.f kj36 t163 t164).bind fun t183 => (if t183 = true then ((impl_IsWithin.f kj36 t164 t163).bind fun t184 => (if t184 = true then (laws_FnKinds.j2 kj36 t163 t164 t165 t166 (t163 != t164)) else (laws_FnKinds.j2 kj36 t163 t164 t165 t166 false))) else (laws_FnKinds.j2 kj36 t163 t164 t165 t166 false))) else (laws_FnKinds.j2 kj36 t163 t164 t165 t166 true))) else (laws_FnKinds.j2 kj36 t163 t164 t165 t166 true)) = some r := H
                  have A43 := Aside0.mk A430
                  clear A430
                  by_cases c44 : t181 = true
                  · subst c44
                    have H1 : ((impl_IsWithin.f kj36 t164 t166).bind fun t182 => (if t182 = true then ((impl_IsWithin.f kj36 t163 t164).bind fun t183 => (if t183 = true then ((impl_IsWithin.f kj36 t164 t163).bind fun t184 => (if t184 = true then (laws_FnKinds.j2 kj36 t163 t164 t165 t166 (t163 != t164)) else (laws_FnKinds.j2 kj36 t163 t164 t165 t166 false))) else (laws_FnKinds.j2 kj36 t163 t164 t165 t166 false))) else (laws_FnKinds.j2 kj36 t163 t164 t165 t166 true))) = some r := by rw [if_pos rfl] at H; exact H
                    clear H
                    have H := H1
                    clear H1
                    replace H := Option.bind_eq_some_iff.mp H
                    obtain ⟨t182, A450, H⟩ := H
                    replace H : (if t182 = true then ((impl_IsWithin.f kj36 t163 t164).bind fun t183 => (if t183 = true then ((impl_IsWithin.f kj36 t164 t163).bind fun t184 => (if t184 = true then (laws_FnKinds.j2 kj36 t163 t164 t165 t166 (t163 != t164)) else (laws_FnKinds.j2 kj36 t163 t164 t165 t166 false))) else (laws_FnKinds.j2 kj36 t163 t164 t165 t166 false))) else (laws_FnKinds.j2 kj36 t163 t164 t165 t166 true)) = some r := H
                    have A45 := Aside0.mk A450
                    clear A450
                    by_cases c46 : t182 = true
                    · subst c46
                      have H1 : ((impl_IsWithin.f kj36 t163 t164).bind fun t183 => (if t183 = true then ((impl_IsWithin.f kj36 t164 t163).bind fun t184 => (if t184 = true then (laws_FnKinds.j2 kj36 t163 t164 t165 t166 (t163 != t164)) else (laws_FnKinds.j2 kj36 t163 t164 t165 t166 false))) else (laws_FnKinds.j2 kj36 t163 t164 t165 t166 false))) = some r := by rw [if_pos rfl] at H; exact H
                      clear H
                      have H := H1
                      clear H1
                      replace H := Option.bind_eq_some_iff.mp H
                      obtain ⟨t183, A470, H⟩ := H
                      replace H : (if t183 = true then ((impl_IsWithin.f kj36 t164 t163).bind fun t184 => (if t184 = true then (laws_FnKinds.j2 kj36 t163 t164 t165 t166 (t163 != t164)) else (laws_FnKinds.j2 kj36 t163 t164 t165 t166 false))) else (laws_FnKinds.j2 kj36 t163 t164 t165 t166 false)) = some r := H
                      have A47 := Aside0.mk A470
                      clear A470
                      by_cases c48 : t183 = true
                      · subst c48
                        have H1 : ((impl_IsWithin.f kj36 t164 t163).bind fun t184 => (if t184 = true then (laws_FnKinds.j2 kj36 t163 t164 t165 t166 (t163 != t164)) else (laws_FnKinds.j2 kj36 t163 t164 t165 t166 false))) = some r := by rw [if_pos rfl] at H; exact H
                        clear H
                        have H := H1
                        clear H1
                        replace H := Option.bind_eq_some_iff.mp H
                        obtain ⟨t184, A490, H⟩ := H
                        replace H : (if t184 = true then (laws_FnKinds.j2 kj36 t163 t164 t165 t166 (t163 != t164)) else (laws_FnKinds.j2 kj36 t163 t164 t165 t166 false)) = some r := H
                        have A49 := Aside0.mk A490
                        clear A490
                        by_cases c50 : t184 = true
                        · subst c50
                          have H1 : (laws_FnKinds.j2 kj36 t163 t164 t165 t166 (t163 != t164)) = some r := by rw [if_pos rfl] at H; exact H
                          clear H
                          have H := H1
                          clear H1
                          have H' := Aside0.mk H
                          clear H
                          go_wp2_with (first | ((with_reducible refine gate_callee (f := 20) rfl ?_); refine goesL_ (some 90) rfl rfl Try.func20 (by kernel_rfl) rfl #[.int .i64 t163, .int .i64 t166] rfl (by (try simp only [List.map_toArray, List.map_cons, List.map_nil]); first | done | rfl | (simp only [List.length_drop, List.length_take]; rfl)) ?_; (with_reducible refine (impl_IsWithin.calls kj36 t163 t166 true _ A43.out).mono ?_); rintro e w' ⟨rfl, ⟨nd, rfl⟩⟩; refine ⟨_, rfl, ?_⟩) | (go_at_call 20; (with_reducible refine (impl_IsWithin.calls kj36 t164 t166 true _ A45.out).mono ?_); rintro e w' ⟨rfl, ⟨nd, rfl⟩⟩) | (go_at_call 20; (with_reducible refine (impl_IsWithin.calls kj36 t163 t164 true _ A47.out).mono ?_); rintro e w' ⟨rfl, ⟨nd, rfl⟩⟩) | (go_at_call 20; (with_reducible refine (impl_IsWithin.calls kj36 t164 t163 true _ A49.out).mono ?_); rintro e w' ⟨rfl, ⟨nd, rfl⟩⟩))
                          go_meet
                          case rel => exact ⟨_, ((t163 != t164)), (by first | rfl | (simp; done) | (simp [*]; done)), H', ⟨by have := HJ8.out; have := HJ36.out; first | omega | exact Nat.le_refl _⟩, ⟨by repeat (first | (with_reducible first | exact HB.out | apply below_alloc | apply pw_below_drewN | apply below_drew1) | exact HB.out)⟩⟩
                        · replace c50 := Bool.eq_false_iff.mpr c50
                          subst c50
                          have H1 : (laws_FnKinds.j2 kj36 t163 t164 t165 t166 false) = some r := by rw [if_neg (show ¬ (false = true) by decide)] at H; exact H
                          clear H
                          have H := H1
                          clear H1
                          have H' := Aside0.mk H
                          clear H
                          go_wp2_with (first | ((with_reducible refine gate_callee (f := 20) rfl ?_); refine goesL_ (some 90) rfl rfl Try.func20 (by kernel_rfl) rfl #[.int .i64 t163, .int .i64 t166] rfl (by (try simp only [List.map_toArray, List.map_cons, List.map_nil]); first | done | rfl | (simp only [List.length_drop, List.length_take]; rfl)) ?_; (with_reducible refine (impl_IsWithin.calls kj36 t163 t166 true _ A43.out).mono ?_); rintro e w' ⟨rfl, ⟨nd, rfl⟩⟩; refine ⟨_, rfl, ?_⟩) | (go_at_call 20; (with_reducible refine (impl_IsWithin.calls kj36 t164 t166 true _ A45.out).mono ?_); rintro e w' ⟨rfl, ⟨nd, rfl⟩⟩) | (go_at_call 20; (with_reducible refine (impl_IsWithin.calls kj36 t163 t164 true _ A47.out).mono ?_); rintro e w' ⟨rfl, ⟨nd, rfl⟩⟩) | (go_at_call 20; (with_reducible refine (impl_IsWithin.calls kj36 t164 t163 false _ A49.out).mono ?_); rintro e w' ⟨rfl, ⟨nd, rfl⟩⟩))
                          go_meet
                          case rel => exact ⟨_, (false), (by first | rfl | (simp; done) | (simp [*]; done)), H', ⟨by have := HJ8.out; have := HJ36.out; first | omega | exact Nat.le_refl _⟩, ⟨by repeat (first | (with_reducible first | exact HB.out | apply below_alloc | apply pw_below_drewN | apply below_drew1) | exact HB.out)⟩⟩
                      · replace c48 := Bool.eq_false_iff.mpr c48
                        subst c48
                        have H1 : (laws_FnKinds.j2 kj36 t163 t164 t165 t166 false) = some r := by rw [if_neg (show ¬ (false = true) by decide)] at H; exact H
                        clear H
                        have H := H1
                        clear H1
                        have H' := Aside0.mk H
                        clear H
                        go_wp2_with (first | ((with_reducible refine gate_callee (f := 20) rfl ?_); refine goesL_ (some 90) rfl rfl Try.func20 (by kernel_rfl) rfl #[.int .i64 t163, .int .i64 t166] rfl (by (try simp only [List.map_toArray, List.map_cons, List.map_nil]); first | done | rfl | (simp only [List.length_drop, List.length_take]; rfl)) ?_; (with_reducible refine (impl_IsWithin.calls kj36 t163 t166 true _ A43.out).mono ?_); rintro e w' ⟨rfl, ⟨nd, rfl⟩⟩; refine ⟨_, rfl, ?_⟩) | (go_at_call 20; (with_reducible refine (impl_IsWithin.calls kj36 t164 t166 true _ A45.out).mono ?_); rintro e w' ⟨rfl, ⟨nd, rfl⟩⟩) | (go_at_call 20; (with_reducible refine (impl_IsWithin.calls kj36 t163 t164 false _ A47.out).mono ?_); rintro e w' ⟨rfl, ⟨nd, rfl⟩⟩))
                        go_meet
                        case rel => exact ⟨_, (false), (by first | rfl | (simp; done) | (simp [*]; done)), H', ⟨by have := HJ8.out; have := HJ36.out; first | omega | exact Nat.le_refl _⟩, ⟨by repeat (first | (with_reducible first | exact HB.out | apply below_alloc | apply pw_below_drewN | apply below_drew1) | exact HB.out)⟩⟩
                    · replace c46 := Bool.eq_false_iff.mpr c46
                      subst c46
                      have H1 : (laws_FnKinds.j2 kj36 t163 t164 t165 t166 true) = some r := by rw [if_neg (show ¬ (false = true) by decide)] at H; exact H
                      clear H
                      have H := H1
                      clear H1
                      have H' := Aside0.mk H
                      clear H
                      go_wp2_with (first | ((with_reducible refine gate_callee (f := 20) rfl ?_); refine goesL_ (some 90) rfl rfl Try.func20 (by kernel_rfl) rfl #[.int .i64 t163, .int .i64 t166] rfl (by (try simp only [List.map_toArray, List.map_cons, List.map_nil]); first | done | rfl | (simp only [List.length_drop, List.length_take]; rfl)) ?_; (with_reducible refine (impl_IsWithin.calls kj36 t163 t166 true _ A43.out).mono ?_); rintro e w' ⟨rfl, ⟨nd, rfl⟩⟩; refine ⟨_, rfl, ?_⟩) | (go_at_call 20; (with_reducible refine (impl_IsWithin.calls kj36 t164 t166 false _ A45.out).mono ?_); rintro e w' ⟨rfl, ⟨nd, rfl⟩⟩))
                      go_meet
                      case rel => exact ⟨_, (true), (by first | rfl | (simp; done) | (simp [*]; done)), H', ⟨by have := HJ8.out; have := HJ36.out; first | omega | exact Nat.le_refl _⟩, ⟨by repeat (first | (with_reducible first | exact HB.out | apply below_alloc | apply pw_below_drewN | apply below_drew1) | exact HB.out)⟩⟩
                  · replace c44 := Bool.eq_false_iff.mpr c44
                    subst c44
                    have H1 : (laws_FnKinds.j2 kj36 t163 t164 t165 t166 true) = some r := by rw [if_neg (show ¬ (false = true) by decide)] at H; exact H
                    clear H
                    have H := H1
                    clear H1
                    have H' := Aside0.mk H
                    clear H
                    go_wp2_with (first | ((with_reducible refine gate_callee (f := 20) rfl ?_); refine goesL_ (some 90) rfl rfl Try.func20 (by kernel_rfl) rfl #[.int .i64 t163, .int .i64 t166] rfl (by (try simp only [List.map_toArray, List.map_cons, List.map_nil]); first | done | rfl | (simp only [List.length_drop, List.length_take]; rfl)) ?_; (with_reducible refine (impl_IsWithin.calls kj36 t163 t166 false _ A43.out).mono ?_); rintro e w' ⟨rfl, ⟨nd, rfl⟩⟩; refine ⟨_, rfl, ?_⟩))
                    go_meet
                    case rel => exact ⟨_, (true), (by first | rfl | (simp; done) | (simp [*]; done)), H', ⟨by have := HJ8.out; have := HJ36.out; first | omega | exact Nat.le_refl _⟩, ⟨by repeat (first | (with_reducible first | exact HB.out | apply below_alloc | apply pw_below_drewN | apply below_drew1) | exact HB.out)⟩⟩
                case rest =>
                  clear HC42
                  try clear c1
                  try clear c2
                  try clear p2
                  try clear c3
                  try clear c4
                  try clear c5
                  try clear c9
                  try clear c13
                  try clear c13b0
                  try clear c13b1
                  try clear c16
                  try clear c16b0
                  try clear c16b1
                  try clear c16b2
                  try clear c19
                  try clear c19b0
                  try clear c19b1
                  try clear c20
                  try clear c20b0
                  try clear c20b1
                  try clear c21
                  try clear c21b0
                  try clear c21b1
                  try clear c22
                  try clear c24
                  try clear c24b0
                  try clear c24b1
                  try clear c24b2
                  try clear c25
                  try clear c26
                  try clear c27
                  try clear c28
                  try clear c29
                  try clear c36
                  try clear c39
                  try clear c41
                  try clear c44
                  try clear c46
                  try clear c48
                  try clear c50
                  try clear p2
                  obtain ⟨kq, x112_41, rfl, HA, HJ41, HB⟩ := hcut
                  cases kq with
                  | zero => exact absurd HA.out (by simp [laws_FnKinds.j2])
                  | succ kj41 =>
                    have H := HA.out
                    clear HA
                    simp only [laws_FnKinds.j2] at H
                    by_cases c51 : x112_41 = true
                    · subst c51
                      have H1 : (some false) = some r := by rw [if_pos rfl] at H; exact H
                      clear H
                      have H := H1
                      clear H1
                      obtain rfl := Option.some.inj H
                      go_wp2
                      go_ret
                      exact ⟨by first | rfl | (simp [errW_none, errW_some] <;> rfl) | (simp [*, errW_none, errW_some] <;> rfl), by repeat (first | (with_reducible first | exact HB.out | apply below_alloc | apply pw_below_drewN | apply below_drew1) | exact HB.out)⟩
                    · replace c51 := Bool.eq_false_iff.mpr c51
                      subst c51
                      have H1 : ((impl_IsKind.f t165).bind fun t185 => (if t185 = true then ((impl_IsWithin.f kj41 t163 t165).bind fun t186 => (if t186 = true then ((impl_IsWithin.f kj41 t164 t165).bind fun t187 => (if t187 = true then ((impl_IsWithin.f kj41 t166 t165).bind fun t188 => (some t188)) else (some true))) else (some true))) else (some true))) = some r := by rw [if_neg (show ¬ (false = true) by decide)] at H; exact H
                      clear H
                      have H := H1
                      clear H1
                      replace H := Option.bind_eq_some_iff.mp H
                      obtain ⟨t185, A520, H⟩ := H
                      replace H : (if t185 = true then ((impl_IsWithin.f kj41 t163 t165).bind fun t186 => (if t186 = true then ((impl_IsWithin.f kj41 t164 t165).bind fun t187 => (if t187 = true then ((impl_IsWithin.f kj41 t166 t165).bind fun t188 => (some t188)) else (some true))) else (some true))) else (some true)) = some r := H
                      have A52 := Aside0.mk A520
                      clear A520
                      by_cases c53 : t185 = true
                      · subst c53
                        have H1 : ((impl_IsWithin.f kj41 t163 t165).bind fun t186 => (if t186 = true then ((impl_IsWithin.f kj41 t164 t165).bind fun t187 => (if t187 = true then ((impl_IsWithin.f kj41 t166 t165).bind fun t188 => (some t188)) else (some true))) else (some true))) = some r := by rw [if_pos rfl] at H; exact H
                        clear H
                        have H := H1
                        clear H1
                        replace H := Option.bind_eq_some_iff.mp H
                        obtain ⟨t186, A540, H⟩ := H
                        replace H : (if t186 = true then ((impl_IsWithin.f kj41 t164 t165).bind fun t187 => (if t187 = true then ((impl_IsWithin.f kj41 t166 t165).bind fun t188 => (some t188)) else (some true))) else (some true)) = some r := H
                        have A54 := Aside0.mk A540
                        clear A540
                        by_cases c55 : t186 = true
                        · subst c55
                          have H1 : ((impl_IsWithin.f kj41 t164 t165).bind fun t187 => (if t187 = true then ((impl_IsWithin.f kj41 t166 t165).bind fun t188 => (some t188)) else (some true))) = some r := by rw [if_pos rfl] at H; exact H
                          clear H
                          have H := H1
                          clear H1
                          replace H := Option.bind_eq_some_iff.mp H
                          obtain ⟨t187, A560, H⟩ := H
                          replace H : (if t187 = true then ((impl_IsWithin.f kj41 t166 t165).bind fun t188 => (some t188)) else (some true)) = some r := H
                          have A56 := Aside0.mk A560
                          clear A560
                          by_cases c57 : t187 = true
                          · subst c57
                            have H1 : ((impl_IsWithin.f kj41 t166 t165).bind fun t188 => (some t188)) = some r := by rw [if_pos rfl] at H; exact H
                            clear H
                            have H := H1
                            clear H1
                            replace H := Option.bind_eq_some_iff.mp H
                            obtain ⟨t188, A580, H⟩ := H
                            replace H : (some t188) = some r := H
                            have A58 := Aside0.mk A580
                            clear A580
                            obtain rfl := Option.some.inj H
                            go_wp2_with (first | ((with_reducible refine gate_callee (f := 16) rfl ?_); refine goesL_ (some 114) rfl rfl Try.func16 (by kernel_rfl) rfl #[.int .i64 t165] rfl (by (try simp only [List.map_toArray, List.map_cons, List.map_nil]); first | done | rfl | (simp only [List.length_drop, List.length_take]; rfl)) ?_; (with_reducible refine (impl_IsKind.calls t165 true _ A52.out).mono ?_); rintro e w' ⟨rfl, ⟨nd, rfl⟩⟩; refine ⟨_, rfl, ?_⟩) | (go_at_call 20; (with_reducible refine (impl_IsWithin.calls kj41 t163 t165 true _ A54.out).mono ?_); rintro e w' ⟨rfl, ⟨nd, rfl⟩⟩) | (go_at_call 20; (with_reducible refine (impl_IsWithin.calls kj41 t164 t165 true _ A56.out).mono ?_); rintro e w' ⟨rfl, ⟨nd, rfl⟩⟩) | (go_at_call 20; (with_reducible refine (impl_IsWithin.calls kj41 t166 t165 t188 _ A58.out).mono ?_); rintro e w' ⟨rfl, ⟨nd, rfl⟩⟩))
                            go_ret
                            exact ⟨by first | rfl | (simp [errW_none, errW_some] <;> rfl) | (simp [*, errW_none, errW_some] <;> rfl), by repeat (first | (with_reducible first | exact HB.out | apply below_alloc | apply pw_below_drewN | apply below_drew1) | exact HB.out)⟩
                          · replace c57 := Bool.eq_false_iff.mpr c57
                            subst c57
                            have H1 : (some true) = some r := by rw [if_neg (show ¬ (false = true) by decide)] at H; exact H
                            clear H
                            have H := H1
                            clear H1
                            obtain rfl := Option.some.inj H
                            go_wp2_with (first | ((with_reducible refine gate_callee (f := 16) rfl ?_); refine goesL_ (some 114) rfl rfl Try.func16 (by kernel_rfl) rfl #[.int .i64 t165] rfl (by (try simp only [List.map_toArray, List.map_cons, List.map_nil]); first | done | rfl | (simp only [List.length_drop, List.length_take]; rfl)) ?_; (with_reducible refine (impl_IsKind.calls t165 true _ A52.out).mono ?_); rintro e w' ⟨rfl, ⟨nd, rfl⟩⟩; refine ⟨_, rfl, ?_⟩) | (go_at_call 20; (with_reducible refine (impl_IsWithin.calls kj41 t163 t165 true _ A54.out).mono ?_); rintro e w' ⟨rfl, ⟨nd, rfl⟩⟩) | (go_at_call 20; (with_reducible refine (impl_IsWithin.calls kj41 t164 t165 false _ A56.out).mono ?_); rintro e w' ⟨rfl, ⟨nd, rfl⟩⟩))
                            go_ret
                            exact ⟨by first | rfl | (simp [errW_none, errW_some] <;> rfl) | (simp [*, errW_none, errW_some] <;> rfl), by repeat (first | (with_reducible first | exact HB.out | apply below_alloc | apply pw_below_drewN | apply below_drew1) | exact HB.out)⟩
                        · replace c55 := Bool.eq_false_iff.mpr c55
                          subst c55
                          have H1 : (some true) = some r := by rw [if_neg (show ¬ (false = true) by decide)] at H; exact H
                          clear H
                          have H := H1
                          clear H1
                          obtain rfl := Option.some.inj H
                          go_wp2_with (first | ((with_reducible refine gate_callee (f := 16) rfl ?_); refine goesL_ (some 114) rfl rfl Try.func16 (by kernel_rfl) rfl #[.int .i64 t165] rfl (by (try simp only [List.map_toArray, List.map_cons, List.map_nil]); first | done | rfl | (simp only [List.length_drop, List.length_take]; rfl)) ?_; (with_reducible refine (impl_IsKind.calls t165 true _ A52.out).mono ?_); rintro e w' ⟨rfl, ⟨nd, rfl⟩⟩; refine ⟨_, rfl, ?_⟩) | (go_at_call 20; (with_reducible refine (impl_IsWithin.calls kj41 t163 t165 false _ A54.out).mono ?_); rintro e w' ⟨rfl, ⟨nd, rfl⟩⟩))
                          go_ret
                          exact ⟨by first | rfl | (simp [errW_none, errW_some] <;> rfl) | (simp [*, errW_none, errW_some] <;> rfl), by repeat (first | (with_reducible first | exact HB.out | apply below_alloc | apply pw_below_drewN | apply below_drew1) | exact HB.out)⟩
                      · replace c53 := Bool.eq_false_iff.mpr c53
                        subst c53
                        have H1 : (some true) = some r := by rw [if_neg (show ¬ (false = true) by decide)] at H; exact H
                        clear H
                        have H := H1
                        clear H1
                        obtain rfl := Option.some.inj H
                        go_wp2_with (first | ((with_reducible refine gate_callee (f := 16) rfl ?_); refine goesL_ (some 114) rfl rfl Try.func16 (by kernel_rfl) rfl #[.int .i64 t165] rfl (by (try simp only [List.map_toArray, List.map_cons, List.map_nil]); first | done | rfl | (simp only [List.length_drop, List.length_take]; rfl)) ?_; (with_reducible refine (impl_IsKind.calls t165 false _ A52.out).mono ?_); rintro e w' ⟨rfl, ⟨nd, rfl⟩⟩; refine ⟨_, rfl, ?_⟩))
                        go_ret
                        exact ⟨by first | rfl | (simp [errW_none, errW_some] <;> rfl) | (simp [*, errW_none, errW_some] <;> rfl), by repeat (first | (with_reducible first | exact HB.out | apply below_alloc | apply pw_below_drewN | apply below_drew1) | exact HB.out)⟩

/-- THE ONE PURE STATEMENT of laws_FnKinds: yours. -/
def laws_FnKinds.Pure : Prop := ∀ (l0 : List Int), l0.length ≤ maxLen → l0.length * 1 ≤ 140737488351232 → (∀ x ∈ l0, (Lit.int .u8 x).wf = true) → ∃ k, laws_FnKinds.f k l0 = some true
theorem laws_FnKinds.walk (P : laws_FnKinds.Pure) (a0 : Option Addr) (len0 cap0 : Nat) (z0 : List Int) (w : World) (w0 : (a0 = none ∧ len0 = 0 ∧ cap0 = 0 ∧ z0 = []) ∨ ∃ x, a0 = some x ∧ len0 ≤ cap0 ∧ cap0 ≤ maxLen ∧ z0.length = cap0 ∧ (∀ i, i < z0.length → w.cell? (x.add i) = some (.int .u8 (z0.getD i 0))) ∧ ∀ n ∈ z0, (Lit.int .u8 n).wf = true) (y0 : len0 * 1 ≤ 140737488351232) :
    Calls Try.prog 9 #[.slice a0 len0 cap0] w fun e w' => e = .returned (.bool true) ∧ Below w.heap.size w w' := by
  obtain ⟨l0, rfl, hr0, hm0, hw0, hc0⟩ := ReadsInt.ofRowC w0
  obtain ⟨k, h⟩ := P l0 hm0 y0 hw0
  refine (laws_FnKinds.calls k _ _ l0 true w (Kd.C_of_reads (d := (0 : Int)) (h1 := fun _ => rfl) hr0) hc0 h).mono ?_
  rintro e w' ⟨rfl, hd⟩
  exact ⟨rfl, hd⟩

end Go.Proofs.Ytncajfbncgglcaa.XKinds
