/- Contracts of functions that the law FnSpanMeet reaches, over the seat's program: each says what one call returns. The lines are the kit's print (print.sh), laid anew as texts of this session's own, since one printed branch does not build. -/
import Derived.Test.YtbdlfopkdplgcaaPFnSpanMeetx0
import Derived.Test.YtbdlfopkdplgcaaPFnSpanMeetx1
import Derived.Test.YtbdlfopkdplgcaaQFnSpanMeetx2
import Derived.Test.YtbdlfopkdplgcaaQFnSpanMeetx3
import Derived.Test.YtbdlfopkdplgcaaQFnSpanMeetx4
namespace Go.Proofs.Ytbdlfopkdplgcaa.PFnSpanMeet
open Go.RowKit Go.Proofs.YtbdlfopkdplgcaaW.PrintWords Go.Proofs.YtbdlfopkdplgcaaW.PrintLast Go.Proofs.YtbdlfopkdplgcaaW.PrintMore
attribute [local go_sem] max2_int min2_int max_two min_two max_three min_three max_four min_four   -- for this text's walks alone
set_option linter.unusedVariables false
set_option linter.unusedSimpArgs false

attribute [local go_sem high] eqA29
/-! ### laws_FnSpanMeet: function 8 -/
mutual
def laws_FnSpanMeet.j0 : Nat → List Int → List Int → Bool → Option (Bool)
  | 0, _, _, _ => none
  | k + 1, x0, x1, x21 => if x21 = true then (some true) else ((spec_DrawSpanMeet.f k x0).bind fun bt219 => ((spec_DrawSpanOf.f k x1).bind fun bt225 => ((spec_SpanMeet.f bt219.1 bt219.2.1 bt219.2.2.1 bt219.2.2.2).bind fun bt227 => ((impl_SpanMeet.f bt219.1 bt219.2.1 bt219.2.2.1 bt219.2.2.2).bind fun bt231 => (if (bt231.2.2 != bt227.2.2) = true then (laws_FnSpanMeet.j1 k bt225.1 bt225.2 bt227.2.2 bt231.2.2 true bt219.1 bt219.2.1 bt219.2.2.1 bt219.2.2.2 bt227.1 bt227.2.1 bt231.1 bt231.2.1) else (if (!(bt231.1 == bt227.1) || (!(bt231.2.1 == bt227.2.1))) = true then (laws_FnSpanMeet.j1 k bt225.1 bt225.2 bt227.2.2 bt231.2.2 true bt219.1 bt219.2.1 bt219.2.2.1 bt219.2.2.2 bt227.1 bt227.2.1 bt231.1 bt231.2.1) else ((spec_SpanOk.f bt219.1 bt219.2.1).bind fun t235 => (if t235 = true then ((spec_SpanOk.f bt219.2.2.1 bt219.2.2.2).bind fun t236 => (laws_FnSpanMeet.j1 k bt225.1 bt225.2 bt227.2.2 bt231.2.2 (!t236) bt219.1 bt219.2.1 bt219.2.2.1 bt219.2.2.2 bt227.1 bt227.2.1 bt231.1 bt231.2.1)) else (laws_FnSpanMeet.j1 k bt225.1 bt225.2 bt227.2.2 bt231.2.2 true bt219.1 bt219.2.1 bt219.2.2.1 bt219.2.2.2 bt227.1 bt227.2.1 bt231.1 bt231.2.1)))))))))
def laws_FnSpanMeet.j1 : Nat → Int → Int → Bool → Bool → Bool → Int → Int → Int → Int → Int → Int → Int → Int → Option (Bool)
  | 0, _, _, _, _, _, _, _, _, _, _, _, _, _ => none
  | k + 1, x7, x8, x10, x12, x61, x224000, x224001, x225000, x225001, x231000, x231001, x235000, x235001 => if x61 = true then (if (x12 == x10) = true then (some (x235000 == x231000 && (x235001 == x231001))) else (some false)) else ((impl_SpanHas.f x224000 x224001 x7 x8).bind fun t237 => (if t237 = true then ((impl_SpanHas.f x225000 x225001 x7 x8).bind fun t238 => (if x12 = true then ((impl_SpanHas.f x235000 x235001 x7 x8).bind fun t239 => (if (t238 == t239) = true then ((impl_SpanWithin.f x235000 x235001 x224000 x224001).bind fun t240 => (if t240 = true then ((impl_SpanWithin.f x235000 x235001 x225000 x225001).bind fun t241 => (some t241)) else (some false))) else (some false))) else (if (t238 == false) = true then (some true) else (some false)))) else (if x12 = true then ((impl_SpanHas.f x235000 x235001 x7 x8).bind fun t242 => (if (false == t242) = true then ((impl_SpanWithin.f x235000 x235001 x224000 x224001).bind fun t243 => (if t243 = true then ((impl_SpanWithin.f x235000 x235001 x225000 x225001).bind fun t244 => (some t244)) else (some false))) else (some false))) else (if (false == false) = true then (some true) else (some false)))))
end
def laws_FnSpanMeet.f (k : Nat) (l0 : List Int) (l1 : List Int) : Option (Bool) := if (l0.length : Int) > 1048576 then (laws_FnSpanMeet.j0 k l0 l1 true) else (laws_FnSpanMeet.j0 k l0 l1 (decide ((l1.length : Int) > 1048576)))
theorem laws_FnSpanMeet.mono_l : ∀ k, (∀ y0 y1 y2, LeO (laws_FnSpanMeet.j0 k y0 y1 y2) (laws_FnSpanMeet.j0 (k + 1) y0 y1 y2)) ∧ (∀ y0 y1 y2 y3 y4 y5 y6 y7 y8 y9 y10 y11 y12, LeO (laws_FnSpanMeet.j1 k y0 y1 y2 y3 y4 y5 y6 y7 y8 y9 y10 y11 y12) (laws_FnSpanMeet.j1 (k + 1) y0 y1 y2 y3 y4 y5 y6 y7 y8 y9 y10 y11 y12))
  | 0 => ⟨fun _ _ _ r h => by simp [laws_FnSpanMeet.j0] at h, fun _ _ _ _ _ _ _ _ _ _ _ _ _ r h => by simp [laws_FnSpanMeet.j1] at h⟩
  | k + 1 => by
    obtain ⟨ih0, ih1⟩ := laws_FnSpanMeet.mono_l k
    refine ⟨?_, ?_⟩
    · intro y0 y1 y2
      unfold laws_FnSpanMeet.j0
      repeat' first
      | (with_reducible exact ih0 _ _ _)
      | (with_reducible exact ih1 _ _ _ _ _ _ _ _ _ _ _ _ _)
      | (with_reducible exact spec_DrawSpanMeet.mono _ _)
      | (with_reducible exact spec_DrawSpanOf.mono _ _)
      | (with_reducible exact LeO.refl _)
      | (with_reducible exact LeO.none _)
      | (with_reducible refine LeO.ite ?_ ?_)
      | (with_reducible refine LeO.bind ?_ (fun _ => ?_))
      | exact ih0 _ _ _
      | exact ih1 _ _ _ _ _ _ _ _ _ _ _ _ _
      | exact spec_DrawSpanMeet.mono _ _
      | exact spec_DrawSpanOf.mono _ _
      | exact LeO.none _
      | refine LeO.ite ?_ ?_
      | refine LeO.bind ?_ (fun _ => ?_)
    · intro y0 y1 y2 y3 y4 y5 y6 y7 y8 y9 y10 y11 y12
      unfold laws_FnSpanMeet.j1
      repeat' first
      | (with_reducible exact ih0 _ _ _)
      | (with_reducible exact ih1 _ _ _ _ _ _ _ _ _ _ _ _ _)
      | (with_reducible exact spec_DrawSpanMeet.mono _ _)
      | (with_reducible exact spec_DrawSpanOf.mono _ _)
      | (with_reducible exact LeO.refl _)
      | (with_reducible exact LeO.none _)
      | (with_reducible refine LeO.ite ?_ ?_)
      | (with_reducible refine LeO.bind ?_ (fun _ => ?_))
      | exact ih0 _ _ _
      | exact ih1 _ _ _ _ _ _ _ _ _ _ _ _ _
      | exact spec_DrawSpanMeet.mono _ _
      | exact spec_DrawSpanOf.mono _ _
      | exact LeO.none _
      | refine LeO.ite ?_ ?_
      | refine LeO.bind ?_ (fun _ => ?_)
theorem laws_FnSpanMeet.mono : ∀ a0 a1 k, LeO (laws_FnSpanMeet.f k a0 a1) (laws_FnSpanMeet.f (k + 1) a0 a1) := by
  intro a0 a1 k
  obtain ⟨ih0, ih1⟩ := laws_FnSpanMeet.mono_l k
  unfold laws_FnSpanMeet.f
  repeat' first
      | (with_reducible exact ih0 _ _ _)
      | (with_reducible exact ih1 _ _ _ _ _ _ _ _ _ _ _ _ _)
      | (with_reducible exact spec_DrawSpanMeet.mono _ _)
      | (with_reducible exact spec_DrawSpanOf.mono _ _)
      | (with_reducible exact LeO.refl _)
      | (with_reducible exact LeO.none _)
      | (with_reducible refine LeO.ite ?_ ?_)
      | (with_reducible refine LeO.bind ?_ (fun _ => ?_))
      | exact ih0 _ _ _
      | exact ih1 _ _ _ _ _ _ _ _ _ _ _ _ _
      | exact spec_DrawSpanMeet.mono _ _
      | exact spec_DrawSpanOf.mono _ _
      | exact LeO.none _
      | refine LeO.ite ?_ ?_
      | refine LeO.bind ?_ (fun _ => ?_)
/-- What the law's contract takes as known: the program's answers are the reference's. -/
def laws_FnSpanMeet.Same : Prop := (∀ (a0_0 : Int) (a0_1 : Int) (a1_0 : Int) (a1_1 : Int) (r1 r2 : Int × Int × Bool), spec_SpanMeet.f a0_0 a0_1 a1_0 a1_1 = some r1 → impl_SpanMeet.f a0_0 a0_1 a1_0 a1_1 = some r2 → r2 = r1)
set_option maxHeartbeats 8000000 in
set_option maxRecDepth 100000 in
theorem laws_FnSpanMeet.calls (k : Nat) (A0 : Option Addr) (c0 : Nat) (l0 : List Int) (A1 : Option Addr) (c1 : Nat) (l1 : List Int) (r : Bool) (w : World) (hr0 : Kd.C (Kd.int .u8) w A0 l0.length l0) (hc0 : l0.length ≤ c0) (hr1 : Kd.C (Kd.int .u8) w A1 l1.length l1) (hc1 : l1.length ≤ c1) (hE : laws_FnSpanMeet.Same) (hrt : r = true) (h : laws_FnSpanMeet.f k l0 l1 = some r) :
    Calls Try.prog 8 #[.slice A0 l0.length c0, .slice A1 l1.length c1] w fun e w' => e = .returned (.bool r) ∧ Below w.heap.size w w' := by
  have HRT := Aside0.mk hrt
  clear hrt
  have HE_SpanMeet := Aside0.mk hE
  clear hE
  have hu29 := Try.underlying29
  have HR0 := Aside0.mk hr0
  have HC0 := Aside0.mk hc0
  clear hr0 hc0
  have HR1 := Aside0.mk hr1
  have HC1 := Aside0.mk hc1
  clear hr1 hc1
  have HB := Aside0.mk (Below.refl w.heap.size w)
  have H : (if (l0.length : Int) > 1048576 then (laws_FnSpanMeet.j0 k l0 l1 true) else (laws_FnSpanMeet.j0 k l0 l1 (decide ((l1.length : Int) > 1048576)))) = some r := h
  clear h
  have HC3 := Aside0.mk H
  clear H
  go_enter Try.func8, Try.ntmps8
  go_upto_region 1 with (fail)
  go_cut [21] (fun v21 wc => ∃ (kq : Nat) (x21_2 : Bool), v21 = .bool x21_2 ∧ Aside0 (laws_FnSpanMeet.j0 kq l0 l1 x21_2 = some r) ∧ Aside0 (kq ≤ k) ∧ Aside0 (Below w.heap.size w wc))
  case first =>
    have H := HC3.out
    clear HC3
    by_cases c4 : (l0.length : Int) > 1048576
    · rw [if_pos c4] at H
      have c4b0 : decide (1048576 < (l0.length : Int)) = true := decide_eq_true c4
      have c4b1 : decide (1048576 < l0.length) = true := decide_eq_true (by omega)
      clear c4
      (first | rw [c4b0] | (simp only [i64_w, i32_w]; rw [c4b0]) | skip)
      have H' := Aside0.mk H
      clear H
      go_wp2
      go_meet
      case rel => exact ⟨_, (true), (by first | rfl | (simp; done) | (simp [*]; done)), H', ⟨by first | omega | exact Nat.le_refl _⟩, ⟨by repeat (first | (with_reducible first | exact HB.out | apply below_alloc | apply pw_below_drewN | apply below_drew1) | exact HB.out)⟩⟩
    · rw [if_neg c4] at H
      have c4b0 : decide (1048576 < (l0.length : Int)) = false := decide_eq_false c4
      have c4b1 : decide (1048576 < l0.length) = false := decide_eq_false (by omega)
      clear c4
      (first | rw [c4b0] | (simp only [i64_w, i32_w]; rw [c4b0]) | skip)
      have H' := Aside0.mk H
      clear H
      go_wp2
      go_meet
      case rel => exact ⟨_, (decide ((l1.length : Int) > 1048576)), (by first | rfl | (simp; done) | (simp [*]; done)), H', ⟨by first | omega | exact Nat.le_refl _⟩, ⟨by repeat (first | (with_reducible first | exact HB.out | apply below_alloc | apply pw_below_drewN | apply below_drew1) | exact HB.out)⟩⟩
  case rest =>
    clear HC3
    try clear c1
    try clear p2
    try clear c4
    try clear c4b0
    try clear c4b1
    obtain ⟨kq, x21_2, rfl, HA, HJ2, HB⟩ := hcut
    cases kq with
    | zero => exact absurd HA.out (by simp [laws_FnSpanMeet.j0])
    | succ kj2 =>
      have H := HA.out
      clear HA
      simp only [laws_FnSpanMeet.j0] at H
      by_cases c5 : x21_2 = true
      · subst c5
        have H1 : (some true) = some r := by rw [if_pos rfl] at H; exact H
        clear H
        have H := H1
        clear H1
        obtain rfl := Option.some.inj H
        go_wp2
        go_ret
        exact ⟨by first | rfl | (simp [errW_none, errW_some] <;> rfl) | (simp [*, errW_none, errW_some] <;> rfl), by repeat (first | (with_reducible first | exact HB.out | apply below_alloc | apply pw_below_drewN | apply below_drew1) | exact HB.out)⟩
      · replace c5 := Bool.eq_false_iff.mpr c5
        subst c5
        have H1 : ((spec_DrawSpanMeet.f kj2 l0).bind fun bt219 => ((spec_DrawSpanOf.f kj2 l1).bind fun bt225 => ((spec_SpanMeet.f bt219.1 bt219.2.1 bt219.2.2.1 bt219.2.2.2).bind fun bt227 => ((impl_SpanMeet.f bt219.1 bt219.2.1 bt219.2.2.1 bt219.2.2.2).bind fun bt231 => (if (bt231.2.2 != bt227.2.2) = true then (laws_FnSpanMeet.j1 kj2 bt225.1 bt225.2 bt227.2.2 bt231.2.2 true bt219.1 bt219.2.1 bt219.2.2.1 bt219.2.2.2 bt227.1 bt227.2.1 bt231.1 bt231.2.1) else (if (!(bt231.1 == bt227.1) || (!(bt231.2.1 == bt227.2.1))) = true then (laws_FnSpanMeet.j1 kj2 bt225.1 bt225.2 bt227.2.2 bt231.2.2 true bt219.1 bt219.2.1 bt219.2.2.1 bt219.2.2.2 bt227.1 bt227.2.1 bt231.1 bt231.2.1) else ((spec_SpanOk.f bt219.1 bt219.2.1).bind fun t235 => (if t235 = true then ((spec_SpanOk.f bt219.2.2.1 bt219.2.2.2).bind fun t236 => (laws_FnSpanMeet.j1 kj2 bt225.1 bt225.2 bt227.2.2 bt231.2.2 (!t236) bt219.1 bt219.2.1 bt219.2.2.1 bt219.2.2.2 bt227.1 bt227.2.1 bt231.1 bt231.2.1)) else (laws_FnSpanMeet.j1 kj2 bt225.1 bt225.2 bt227.2.2 bt231.2.2 true bt219.1 bt219.2.1 bt219.2.2.1 bt219.2.2.2 bt227.1 bt227.2.1 bt231.1 bt231.2.1))))))))) = some r := by rw [if_neg (show ¬ (false = true) by decide)] at H; exact H
        clear H
        have H := H1
        clear H1
        replace H := Option.bind_eq_some_iff.mp H
        obtain ⟨⟨t219, t220, t221, t222⟩, A60, H⟩ := H
        replace H : ((spec_DrawSpanOf.f kj2 l1).bind fun bt225 => ((spec_SpanMeet.f t219 t220 t221 t222).bind fun bt227 => ((impl_SpanMeet.f t219 t220 t221 t222).bind fun bt231 => (if (bt231.2.2 != bt227.2.2) = true then (laws_FnSpanMeet.j1 kj2 bt225.1 bt225.2 bt227.2.2 bt231.2.2 true t219 t220 t221 t222 bt227.1 bt227.2.1 bt231.1 bt231.2.1) else (if (!(bt231.1 == bt227.1) || (!(bt231.2.1 == bt227.2.1))) = true then (laws_FnSpanMeet.j1 kj2 bt225.1 bt225.2 bt227.2.2 bt231.2.2 true t219 t220 t221 t222 bt227.1 bt227.2.1 bt231.1 bt231.2.1) else ((spec_SpanOk.f t219 t220).bind fun t235 => (if t235 = true then ((spec_SpanOk.f t221 t222).bind fun t236 => (laws_FnSpanMeet.j1 kj2 bt225.1 bt225.2 bt227.2.2 bt231.2.2 (!t236) t219 t220 t221 t222 bt227.1 bt227.2.1 bt231.1 bt231.2.1)) else (laws_FnSpanMeet.j1 kj2 bt225.1 bt225.2 bt227.2.2 bt231.2.2 true t219 t220 t221 t222 bt227.1 bt227.2.1 bt231.1 bt231.2.1)))))))) = some r := H
        have A6 := Aside0.mk A60
        clear A60
        replace H := Option.bind_eq_some_iff.mp H
        obtain ⟨⟨t225, t226⟩, A70, H⟩ := H
        replace H : ((spec_SpanMeet.f t219 t220 t221 t222).bind fun bt227 => ((impl_SpanMeet.f t219 t220 t221 t222).bind fun bt231 => (if (bt231.2.2 != bt227.2.2) = true then (laws_FnSpanMeet.j1 kj2 t225 t226 bt227.2.2 bt231.2.2 true t219 t220 t221 t222 bt227.1 bt227.2.1 bt231.1 bt231.2.1) else (if (!(bt231.1 == bt227.1) || (!(bt231.2.1 == bt227.2.1))) = true then (laws_FnSpanMeet.j1 kj2 t225 t226 bt227.2.2 bt231.2.2 true t219 t220 t221 t222 bt227.1 bt227.2.1 bt231.1 bt231.2.1) else ((spec_SpanOk.f t219 t220).bind fun t235 => (if t235 = true then ((spec_SpanOk.f t221 t222).bind fun t236 => (laws_FnSpanMeet.j1 kj2 t225 t226 bt227.2.2 bt231.2.2 (!t236) t219 t220 t221 t222 bt227.1 bt227.2.1 bt231.1 bt231.2.1)) else (laws_FnSpanMeet.j1 kj2 t225 t226 bt227.2.2 bt231.2.2 true t219 t220 t221 t222 bt227.1 bt227.2.1 bt231.1 bt231.2.1))))))) = some r := H
        have A7 := Aside0.mk A70
        clear A70
        replace H := Option.bind_eq_some_iff.mp H
        obtain ⟨⟨t227, t228, t229⟩, A80, H⟩ := H
        replace H : ((impl_SpanMeet.f t219 t220 t221 t222).bind fun bt231 => (if (bt231.2.2 != t229) = true then (laws_FnSpanMeet.j1 kj2 t225 t226 t229 bt231.2.2 true t219 t220 t221 t222 t227 t228 bt231.1 bt231.2.1) else (if (!(bt231.1 == t227) || (!(bt231.2.1 == t228))) = true then (laws_FnSpanMeet.j1 kj2 t225 t226 t229 bt231.2.2 true t219 t220 t221 t222 t227 t228 bt231.1 bt231.2.1) else ((spec_SpanOk.f t219 t220).bind fun t235 => (if t235 = true then ((spec_SpanOk.f t221 t222).bind fun t236 => (laws_FnSpanMeet.j1 kj2 t225 t226 t229 bt231.2.2 (!t236) t219 t220 t221 t222 t227 t228 bt231.1 bt231.2.1)) else (laws_FnSpanMeet.j1 kj2 t225 t226 t229 bt231.2.2 true t219 t220 t221 t222 t227 t228 bt231.1 bt231.2.1)))))) = some r := H
        have A8 := Aside0.mk A80
        clear A80
        replace H := Option.bind_eq_some_iff.mp H
        obtain ⟨⟨t231, t232, t233⟩, A90, H⟩ := H
        replace H : (if (t233 != t229) = true then (laws_FnSpanMeet.j1 kj2 t225 t226 t229 t233 true t219 t220 t221 t222 t227 t228 t231 t232) else (if (!(t231 == t227) || (!(t232 == t228))) = true then (laws_FnSpanMeet.j1 kj2 t225 t226 t229 t233 true t219 t220 t221 t222 t227 t228 t231 t232) else ((spec_SpanOk.f t219 t220).bind fun t235 => (if t235 = true then ((spec_SpanOk.f t221 t222).bind fun t236 => (laws_FnSpanMeet.j1 kj2 t225 t226 t229 t233 (!t236) t219 t220 t221 t222 t227 t228 t231 t232)) else (laws_FnSpanMeet.j1 kj2 t225 t226 t229 t233 true t219 t220 t221 t222 t227 t228 t231 t232))))) = some r := H
        have A9 := Aside0.mk A90
        have EQ1 := HE_SpanMeet.out _ _ _ _ _ _ A8.out A90
        have EQ1a : Aside0 (t231 = t227) := ⟨congrArg (fun p => p.1) EQ1⟩
        have EQ1b : Aside0 (t232 = t228) := ⟨congrArg (fun p => p.2.1) EQ1⟩
        have EQ1c : Aside0 (t233 = t229) := ⟨congrArg (fun p => p.2.2) EQ1⟩
        clear EQ1
        clear A90
        have HC10 := Aside0.mk H
        clear H
        go_upto_region 7 with (first | ((with_reducible refine gate_callee (f := 31) rfl ?_); refine goesL_ (some 24) rfl rfl Try.func31 (by kernel_rfl) rfl #[.slice A0 l0.length c0] rfl (by (try simp only [List.map_toArray, List.map_cons, List.map_nil]); first | done | rfl | (simp only [List.length_drop, List.length_take]; rfl)) ?_; (with_reducible refine (spec_DrawSpanMeet.calls kj2 _ _ l0 t219 t220 t221 t222 _ ?side1 ?side2 A6.out).mono ?_); (case side1 => repeat (first | exact (Kd.C_below HR0.out HB.out) | (with_reducible refine Kd.C_alloc ?_ _) | (with_reducible refine Kd.C_drewN ?_ _) | (with_reducible refine Kd.C_drew ?_))); (case side2 => exact HC0.out); rintro e w11 ⟨rfl, hb⟩; refine ⟨_, rfl, ?_⟩; have n0_ := Aside0.mk (below_step (by repeat (first | (with_reducible first | exact HB.out | apply below_alloc | apply pw_below_drewN | apply below_drew1) | exact HB.out)) hb); clear HB; have HB := n0_; clear n0_; (try clear hb); (try clear hb2); (try clear hk); (try clear hi)) | ((with_reducible refine gate_dst (N := 5) rfl ?_); (try (refine gate_guard (by rfl) ?_; dsimp only)); refine box_event ?hg (N := 5) ?hd (cs := #[.int .i64 0, .int .i64 0]) (t := 29) ?hr ?_; (case hd => rfl); (case hg => rfl); (case hr => first | (go_simp; done) | (go_simp; rfl)); intro gb223 hg w12 hbox hb; have n0_ := Aside0.mk (below_step (by repeat (first | (with_reducible first | exact HB.out | apply below_alloc | apply pw_below_drewN | apply below_drew1) | exact HB.out)) hb); have n1_ := Aside0.mk (hbox); have n2_ := Aside0.mk ((by rw [hg]; exact (below_size (by repeat (first | (with_reducible first | exact HB.out | apply below_alloc | apply pw_below_drewN | apply below_drew1) | exact HB.out))) : w.heap.size ≤ gb223)); have n3_ := Aside0.mk ((by rw [hg]; exact (below_size (by repeat (first | (with_reducible first | exact HB.out | apply below_alloc | apply pw_below_drewN | apply below_drew1) | exact HB.out))) : w.heap.size ≤ gb223)); clear HB; have HB := n0_; have BK223 := n1_; have GW223 := n2_; have GE223 := n3_; clear n0_ n1_ n2_ n3_; clear hb hbox hg) | ((with_reducible refine gate_dst (N := 6) rfl ?_); (try (refine gate_guard (by rfl) ?_; dsimp only)); refine box_event ?hg (N := 6) ?hd (cs := #[.int .i64 0, .int .i64 0]) (t := 29) ?hr ?_; (case hd => rfl); (case hg => rfl); (case hr => first | (go_simp; done) | (go_simp; rfl)); intro gb224 hg w13 hbox hb; have n0_ := Aside0.mk (blk_below (g := gb223) (o := .cells #[.int .i64 0, .int .i64 0] 29 (0, 0)) (by (with_reducible repeat (first | refine blk_drewN ?_ _ | refine blk_drew ?_ | refine blk_alloc ?_ _)); exact BK223.out) hb); have n1_ := Aside0.mk (below_step (by repeat (first | (with_reducible first | exact HB.out | apply below_alloc | apply pw_below_drewN | apply below_drew1 | refine below_set ?_ GE223.out) | exact HB.out)) hb); have n2_ := Aside0.mk (hbox); have n3_ := Aside0.mk ((by rw [hg]; exact (below_size (by repeat (first | (with_reducible first | exact HB.out | apply below_alloc | apply pw_below_drewN | apply below_drew1 | refine below_set ?_ GE223.out) | exact HB.out))) : w.heap.size ≤ gb224)); have n4_ := Aside0.mk ((by rw [hg]; exact (below_size (by repeat (first | (with_reducible first | exact HB.out | apply below_alloc | apply pw_below_drewN | apply below_drew1 | refine below_set ?_ GE223.out) | exact HB.out))) : w.heap.size ≤ gb224)); have n5_ := Aside0.mk ((by rw [hg]; exact Nat.ne_of_lt (blk_lt (g := gb223) (o := .cells #[.int .i64 0, .int .i64 0] 29 (0, 0)) (by (with_reducible repeat (first | refine blk_drewN ?_ _ | refine blk_drew ?_ | refine blk_alloc ?_ _)); exact BK223.out)) : gb223 ≠ gb224)); have n6_ := Aside0.mk ((by rw [hg]; exact Nat.ne_of_gt (blk_lt (g := gb223) (o := .cells #[.int .i64 0, .int .i64 0] 29 (0, 0)) (by (with_reducible repeat (first | refine blk_drewN ?_ _ | refine blk_drew ?_ | refine blk_alloc ?_ _)); exact BK223.out)) : gb224 ≠ gb223)); clear BK223; clear HB; have BK223 := n0_; have HB := n1_; have BK224 := n2_; have GW224 := n3_; have GE224 := n4_; have NB223_224 := n5_; have NB224_223 := n6_; clear n0_ n1_ n2_ n3_ n4_ n5_ n6_; clear hb hbox hg; have hnb14 := NB223_224.out; have hnc14 := NB224_223.out; have hcz15_0 : w13.cell? ⟨gb223, 0, none⟩ = some (.int .i64 0) := (blk_cell BK223.out 0).trans rfl; have hcz15_1 : w13.cell? ⟨gb223, 1, none⟩ = some (.int .i64 0) := (blk_cell BK223.out 1).trans rfl; have hfz15_0 := blk_frozen BK223.out 0; have hfz15_1 := blk_frozen BK223.out 1; have hcz16_0 : w13.cell? ⟨gb224, 0, none⟩ = some (.int .i64 0) := (blk_cell BK224.out 0).trans rfl; have hcz16_1 : w13.cell? ⟨gb224, 1, none⟩ = some (.int .i64 0) := (blk_cell BK224.out 1).trans rfl; have hfz16_0 := blk_frozen BK224.out 0; have hfz16_1 := blk_frozen BK224.out 1) | ((with_reducible refine gate_callee (f := 25) rfl ?_); refine goesL_ (some 29) rfl rfl Try.func25 (by kernel_rfl) rfl #[.slice A1 l1.length c1] rfl (by (try simp only [List.map_toArray, List.map_cons, List.map_nil]); first | done | rfl | (simp only [List.length_drop, List.length_take]; rfl)) ?_; (with_reducible refine (spec_DrawSpanOf.calls kj2 _ _ l1 t225 t226 _ ?side1 ?side2 A7.out).mono ?_); (case side1 => exact Kd.C_below HR1.out (by repeat (first | (with_reducible first | exact HB.out | apply below_alloc | apply pw_below_drewN | apply below_drew1 | refine below_set ?_ GE223.out | refine below_set ?_ GE224.out) | exact HB.out))); (case side2 => exact HC1.out); rintro e w17 ⟨rfl, hb⟩; refine ⟨_, rfl, ?_⟩; have n0_ := Aside0.mk (blk_below (g := gb223) (o := .cells #[.int .i64 t219, .int .i64 t220] 29 (0, 0)) (by (with_reducible repeat (first | refine blk_drewN ?_ _ | refine blk_drew ?_ | refine blk_alloc ?_ _)); refine blk_far ?_ NB223_224.out _; (with_reducible repeat (first | refine blk_drewN ?_ _ | refine blk_drew ?_ | refine blk_alloc ?_ _)); refine blk_far ?_ NB223_224.out _; (with_reducible repeat (first | refine blk_drewN ?_ _ | refine blk_drew ?_ | refine blk_alloc ?_ _)); refine blk_put (cs := #[.int .i64 t219, .int .i64 0]) ?_ 1 _ rfl; (with_reducible repeat (first | refine blk_drewN ?_ _ | refine blk_drew ?_ | refine blk_alloc ?_ _)); refine blk_put (cs := #[.int .i64 0, .int .i64 0]) ?_ 0 _ rfl; (with_reducible repeat (first | refine blk_drewN ?_ _ | refine blk_drew ?_ | refine blk_alloc ?_ _)); exact BK223.out) hb); have n1_ := Aside0.mk (blk_below (g := gb224) (o := .cells #[.int .i64 t221, .int .i64 t222] 29 (0, 0)) (by (with_reducible repeat (first | refine blk_drewN ?_ _ | refine blk_drew ?_ | refine blk_alloc ?_ _)); refine blk_put (cs := #[.int .i64 t221, .int .i64 0]) ?_ 1 _ rfl; (with_reducible repeat (first | refine blk_drewN ?_ _ | refine blk_drew ?_ | refine blk_alloc ?_ _)); refine blk_put (cs := #[.int .i64 0, .int .i64 0]) ?_ 0 _ rfl; (with_reducible repeat (first | refine blk_drewN ?_ _ | refine blk_drew ?_ | refine blk_alloc ?_ _)); refine blk_far ?_ NB224_223.out _; (with_reducible repeat (first | refine blk_drewN ?_ _ | refine blk_drew ?_ | refine blk_alloc ?_ _)); refine blk_far ?_ NB224_223.out _; (with_reducible repeat (first | refine blk_drewN ?_ _ | refine blk_drew ?_ | refine blk_alloc ?_ _)); exact BK224.out) hb); have n2_ := Aside0.mk (below_step (by repeat (first | (with_reducible first | exact HB.out | apply below_alloc | apply pw_below_drewN | apply below_drew1 | refine below_set ?_ GE223.out | refine below_set ?_ GE224.out) | exact HB.out)) hb); clear BK223; clear BK224; clear HB; have BK223 := n0_; have BK224 := n1_; have HB := n2_; clear n0_ n1_ n2_; (try clear hb); (try clear hb2); (try clear hk); (try clear hi); have hcz18_0 : w17.cell? ⟨gb223, 0, none⟩ = some (.int .i64 t219) := (blk_cell BK223.out 0).trans rfl; have hcz18_1 : w17.cell? ⟨gb223, 1, none⟩ = some (.int .i64 t220) := (blk_cell BK223.out 1).trans rfl; have hfz18_0 := blk_frozen BK223.out 0; have hfz18_1 := blk_frozen BK223.out 1; have hcz19_0 : w17.cell? ⟨gb224, 0, none⟩ = some (.int .i64 t221) := (blk_cell BK224.out 0).trans rfl; have hcz19_1 : w17.cell? ⟨gb224, 1, none⟩ = some (.int .i64 t222) := (blk_cell BK224.out 1).trans rfl; have hfz19_0 := blk_frozen BK224.out 0; have hfz19_1 := blk_frozen BK224.out 1) | ((with_reducible refine gate_callee (f := 32) rfl ?_); refine goesL_ (some 35) rfl rfl Try.func32 (by kernel_rfl) rfl #[.agg #[.int .i64 t219, .int .i64 t220], .agg #[.int .i64 t221, .int .i64 t222]] rfl (by (try simp only [List.map_toArray, List.map_cons, List.map_nil]); first | done | rfl | (simp only [List.length_drop, List.length_take]; rfl)) ?_; (with_reducible refine (spec_SpanMeet.calls t219 t220 t221 t222 t227 t228 t229 _ A8.out).mono ?_); rintro e w20 ⟨rfl, hb⟩; refine ⟨_, rfl, ?_⟩; have n0_ := Aside0.mk (blk_below (g := gb223) (o := .cells #[.int .i64 t219, .int .i64 t220] 29 (0, 0)) (by (with_reducible repeat (first | refine blk_drewN ?_ _ | refine blk_drew ?_ | refine blk_alloc ?_ _)); exact BK223.out) hb); have n1_ := Aside0.mk (blk_below (g := gb224) (o := .cells #[.int .i64 t221, .int .i64 t222] 29 (0, 0)) (by (with_reducible repeat (first | refine blk_drewN ?_ _ | refine blk_drew ?_ | refine blk_alloc ?_ _)); exact BK224.out) hb); have n2_ := Aside0.mk (below_step (by repeat (first | (with_reducible first | exact HB.out | apply below_alloc | apply pw_below_drewN | apply below_drew1 | refine below_set ?_ GE223.out | refine below_set ?_ GE224.out) | exact HB.out)) hb); clear BK223; clear BK224; clear HB; have BK223 := n0_; have BK224 := n1_; have HB := n2_; clear n0_ n1_ n2_; (try clear hb); (try clear hb2); (try clear hk); (try clear hi)) | ((with_reducible refine gate_dst (N := 9) rfl ?_); (try (refine gate_guard (by rfl) ?_; dsimp only)); refine box_event ?hg (N := 9) ?hd (cs := #[.int .i64 0, .int .i64 0]) (t := 29) ?hr ?_; (case hd => rfl); (case hg => rfl); (case hr => first | (go_simp; done) | (go_simp; rfl)); intro gb230 hg w21 hbox hb; have n0_ := Aside0.mk (blk_below (g := gb223) (o := .cells #[.int .i64 t219, .int .i64 t220] 29 (0, 0)) (by (with_reducible repeat (first | refine blk_drewN ?_ _ | refine blk_drew ?_ | refine blk_alloc ?_ _)); exact BK223.out) hb); have n1_ := Aside0.mk (blk_below (g := gb224) (o := .cells #[.int .i64 t221, .int .i64 t222] 29 (0, 0)) (by (with_reducible repeat (first | refine blk_drewN ?_ _ | refine blk_drew ?_ | refine blk_alloc ?_ _)); exact BK224.out) hb); have n2_ := Aside0.mk (below_step (by repeat (first | (with_reducible first | exact HB.out | apply below_alloc | apply pw_below_drewN | apply below_drew1 | refine below_set ?_ GE223.out | refine below_set ?_ GE224.out) | exact HB.out)) hb); have n3_ := Aside0.mk (hbox); have n4_ := Aside0.mk ((by rw [hg]; exact (below_size (by repeat (first | (with_reducible first | exact HB.out | apply below_alloc | apply pw_below_drewN | apply below_drew1 | refine below_set ?_ GE223.out | refine below_set ?_ GE224.out) | exact HB.out))) : w.heap.size ≤ gb230)); have n5_ := Aside0.mk ((by rw [hg]; exact (below_size (by repeat (first | (with_reducible first | exact HB.out | apply below_alloc | apply pw_below_drewN | apply below_drew1 | refine below_set ?_ GE223.out | refine below_set ?_ GE224.out) | exact HB.out))) : w.heap.size ≤ gb230)); have n6_ := Aside0.mk ((by rw [hg]; exact Nat.ne_of_lt (blk_lt (g := gb223) (o := .cells #[.int .i64 t219, .int .i64 t220] 29 (0, 0)) (by (with_reducible repeat (first | refine blk_drewN ?_ _ | refine blk_drew ?_ | refine blk_alloc ?_ _)); exact BK223.out)) : gb223 ≠ gb230)); have n7_ := Aside0.mk ((by rw [hg]; exact Nat.ne_of_gt (blk_lt (g := gb223) (o := .cells #[.int .i64 t219, .int .i64 t220] 29 (0, 0)) (by (with_reducible repeat (first | refine blk_drewN ?_ _ | refine blk_drew ?_ | refine blk_alloc ?_ _)); exact BK223.out)) : gb230 ≠ gb223)); have n8_ := Aside0.mk ((by rw [hg]; exact Nat.ne_of_lt (blk_lt (g := gb224) (o := .cells #[.int .i64 t221, .int .i64 t222] 29 (0, 0)) (by (with_reducible repeat (first | refine blk_drewN ?_ _ | refine blk_drew ?_ | refine blk_alloc ?_ _)); exact BK224.out)) : gb224 ≠ gb230)); have n9_ := Aside0.mk ((by rw [hg]; exact Nat.ne_of_gt (blk_lt (g := gb224) (o := .cells #[.int .i64 t221, .int .i64 t222] 29 (0, 0)) (by (with_reducible repeat (first | refine blk_drewN ?_ _ | refine blk_drew ?_ | refine blk_alloc ?_ _)); exact BK224.out)) : gb230 ≠ gb224)); clear BK223; clear BK224; clear HB; have BK223 := n0_; have BK224 := n1_; have HB := n2_; have BK230 := n3_; have GW230 := n4_; have GE230 := n5_; have NB223_230 := n6_; have NB230_223 := n7_; have NB224_230 := n8_; have NB230_224 := n9_; clear n0_ n1_ n2_ n3_ n4_ n5_ n6_ n7_ n8_ n9_; clear hb hbox hg; have hnb22 := NB230_223.out; have hnc22 := NB223_230.out; have hnb23 := NB230_224.out; have hnc23 := NB224_230.out; have hcz24_0 : w21.cell? ⟨gb230, 0, none⟩ = some (.int .i64 0) := (blk_cell BK230.out 0).trans rfl; have hcz24_1 : w21.cell? ⟨gb230, 1, none⟩ = some (.int .i64 0) := (blk_cell BK230.out 1).trans rfl; have hfz24_0 := blk_frozen BK230.out 0; have hfz24_1 := blk_frozen BK230.out 1; have hcz25_0 : w21.cell? ⟨gb223, 0, none⟩ = some (.int .i64 t219) := (blk_cell BK223.out 0).trans rfl; have hcz25_1 : w21.cell? ⟨gb223, 1, none⟩ = some (.int .i64 t220) := (blk_cell BK223.out 1).trans rfl; have hfz25_0 := blk_frozen BK223.out 0; have hfz25_1 := blk_frozen BK223.out 1; have hcz26_0 : w21.cell? ⟨gb224, 0, none⟩ = some (.int .i64 t221) := (blk_cell BK224.out 0).trans rfl; have hcz26_1 : w21.cell? ⟨gb224, 1, none⟩ = some (.int .i64 t222) := (blk_cell BK224.out 1).trans rfl; have hfz26_0 := blk_frozen BK224.out 0; have hfz26_1 := blk_frozen BK224.out 1) | ((with_reducible refine gate_callee (f := 33) rfl ?_); refine goesL_ (some 41) rfl rfl Try.func33 (by kernel_rfl) rfl #[.agg #[.int .i64 t219, .int .i64 t220], .agg #[.int .i64 t221, .int .i64 t222]] rfl (by (try simp only [List.map_toArray, List.map_cons, List.map_nil]); first | done | rfl | (simp only [List.length_drop, List.length_take]; rfl)) ?_; (with_reducible refine (impl_SpanMeet.calls t219 t220 t221 t222 t231 t232 t233 _ A9.out).mono ?_); rintro e w27 ⟨rfl, hb⟩; refine ⟨_, rfl, ?_⟩; have n0_ := Aside0.mk (blk_below (g := gb223) (o := .cells #[.int .i64 t219, .int .i64 t220] 29 (0, 0)) (by (with_reducible repeat (first | refine blk_drewN ?_ _ | refine blk_drew ?_ | refine blk_alloc ?_ _)); refine blk_far ?_ NB223_230.out _; (with_reducible repeat (first | refine blk_drewN ?_ _ | refine blk_drew ?_ | refine blk_alloc ?_ _)); refine blk_far ?_ NB223_230.out _; (with_reducible repeat (first | refine blk_drewN ?_ _ | refine blk_drew ?_ | refine blk_alloc ?_ _)); exact BK223.out) hb); have n1_ := Aside0.mk (blk_below (g := gb224) (o := .cells #[.int .i64 t221, .int .i64 t222] 29 (0, 0)) (by (with_reducible repeat (first | refine blk_drewN ?_ _ | refine blk_drew ?_ | refine blk_alloc ?_ _)); refine blk_far ?_ NB224_230.out _; (with_reducible repeat (first | refine blk_drewN ?_ _ | refine blk_drew ?_ | refine blk_alloc ?_ _)); refine blk_far ?_ NB224_230.out _; (with_reducible repeat (first | refine blk_drewN ?_ _ | refine blk_drew ?_ | refine blk_alloc ?_ _)); exact BK224.out) hb); have n2_ := Aside0.mk (blk_below (g := gb230) (o := .cells #[.int .i64 t227, .int .i64 t228] 29 (0, 0)) (by (with_reducible repeat (first | refine blk_drewN ?_ _ | refine blk_drew ?_ | refine blk_alloc ?_ _)); refine blk_put (cs := #[.int .i64 t227, .int .i64 0]) ?_ 1 _ rfl; (with_reducible repeat (first | refine blk_drewN ?_ _ | refine blk_drew ?_ | refine blk_alloc ?_ _)); refine blk_put (cs := #[.int .i64 0, .int .i64 0]) ?_ 0 _ rfl; (with_reducible repeat (first | refine blk_drewN ?_ _ | refine blk_drew ?_ | refine blk_alloc ?_ _)); exact BK230.out) hb); have n3_ := Aside0.mk (below_step (by repeat (first | (with_reducible first | exact HB.out | apply below_alloc | apply pw_below_drewN | apply below_drew1 | refine below_set ?_ GE223.out | refine below_set ?_ GE224.out | refine below_set ?_ GE230.out) | exact HB.out)) hb); clear BK223; clear BK224; clear BK230; clear HB; have BK223 := n0_; have BK224 := n1_; have BK230 := n2_; have HB := n3_; clear n0_ n1_ n2_ n3_; (try clear hb); (try clear hb2); (try clear hk); (try clear hi)) | ((with_reducible refine gate_dst (N := 11) rfl ?_); (try (refine gate_guard (by rfl) ?_; dsimp only)); refine box_event ?hg (N := 11) ?hd (cs := #[.int .i64 0, .int .i64 0]) (t := 29) ?hr ?_; (case hd => rfl); (case hg => rfl); (case hr => first | (go_simp; done) | (go_simp; rfl)); intro gb234 hg w28 hbox hb; have n0_ := Aside0.mk (blk_below (g := gb223) (o := .cells #[.int .i64 t219, .int .i64 t220] 29 (0, 0)) (by (with_reducible repeat (first | refine blk_drewN ?_ _ | refine blk_drew ?_ | refine blk_alloc ?_ _)); exact BK223.out) hb); have n1_ := Aside0.mk (blk_below (g := gb224) (o := .cells #[.int .i64 t221, .int .i64 t222] 29 (0, 0)) (by (with_reducible repeat (first | refine blk_drewN ?_ _ | refine blk_drew ?_ | refine blk_alloc ?_ _)); exact BK224.out) hb); have n2_ := Aside0.mk (blk_below (g := gb230) (o := .cells #[.int .i64 t227, .int .i64 t228] 29 (0, 0)) (by (with_reducible repeat (first | refine blk_drewN ?_ _ | refine blk_drew ?_ | refine blk_alloc ?_ _)); exact BK230.out) hb); have n3_ := Aside0.mk (below_step (by repeat (first | (with_reducible first | exact HB.out | apply below_alloc | apply pw_below_drewN | apply below_drew1 | refine below_set ?_ GE223.out | refine below_set ?_ GE224.out | refine below_set ?_ GE230.out) | exact HB.out)) hb); have n4_ := Aside0.mk (hbox); have n5_ := Aside0.mk ((by rw [hg]; exact (below_size (by repeat (first | (with_reducible first | exact HB.out | apply below_alloc | apply pw_below_drewN | apply below_drew1 | refine below_set ?_ GE223.out | refine below_set ?_ GE224.out | refine below_set ?_ GE230.out) | exact HB.out))) : w.heap.size ≤ gb234)); have n6_ := Aside0.mk ((by rw [hg]; exact (below_size (by repeat (first | (with_reducible first | exact HB.out | apply below_alloc | apply pw_below_drewN | apply below_drew1 | refine below_set ?_ GE223.out | refine below_set ?_ GE224.out | refine below_set ?_ GE230.out) | exact HB.out))) : w.heap.size ≤ gb234)); have n7_ := Aside0.mk ((by rw [hg]; exact Nat.ne_of_lt (blk_lt (g := gb223) (o := .cells #[.int .i64 t219, .int .i64 t220] 29 (0, 0)) (by (with_reducible repeat (first | refine blk_drewN ?_ _ | refine blk_drew ?_ | refine blk_alloc ?_ _)); exact BK223.out)) : gb223 ≠ gb234)); have n8_ := Aside0.mk ((by rw [hg]; exact Nat.ne_of_gt (blk_lt (g := gb223) (o := .cells #[.int .i64 t219, .int .i64 t220] 29 (0, 0)) (by (with_reducible repeat (first | refine blk_drewN ?_ _ | refine blk_drew ?_ | refine blk_alloc ?_ _)); exact BK223.out)) : gb234 ≠ gb223)); have n9_ := Aside0.mk ((by rw [hg]; exact Nat.ne_of_lt (blk_lt (g := gb224) (o := .cells #[.int .i64 t221, .int .i64 t222] 29 (0, 0)) (by (with_reducible repeat (first | refine blk_drewN ?_ _ | refine blk_drew ?_ | refine blk_alloc ?_ _)); exact BK224.out)) : gb224 ≠ gb234)); have n10_ := Aside0.mk ((by rw [hg]; exact Nat.ne_of_gt (blk_lt (g := gb224) (o := .cells #[.int .i64 t221, .int .i64 t222] 29 (0, 0)) (by (with_reducible repeat (first | refine blk_drewN ?_ _ | refine blk_drew ?_ | refine blk_alloc ?_ _)); exact BK224.out)) : gb234 ≠ gb224)); have n11_ := Aside0.mk ((by rw [hg]; exact Nat.ne_of_lt (blk_lt (g := gb230) (o := .cells #[.int .i64 t227, .int .i64 t228] 29 (0, 0)) (by (with_reducible repeat (first | refine blk_drewN ?_ _ | refine blk_drew ?_ | refine blk_alloc ?_ _)); exact BK230.out)) : gb230 ≠ gb234)); have n12_ := Aside0.mk ((by rw [hg]; exact Nat.ne_of_gt (blk_lt (g := gb230) (o := .cells #[.int .i64 t227, .int .i64 t228] 29 (0, 0)) (by (with_reducible repeat (first | refine blk_drewN ?_ _ | refine blk_drew ?_ | refine blk_alloc ?_ _)); exact BK230.out)) : gb234 ≠ gb230)); clear BK223; clear BK224; clear BK230; clear HB; have BK223 := n0_; have BK224 := n1_; have BK230 := n2_; have HB := n3_; have BK234 := n4_; have GW234 := n5_; have GE234 := n6_; have NB223_234 := n7_; have NB234_223 := n8_; have NB224_234 := n9_; have NB234_224 := n10_; have NB230_234 := n11_; have NB234_230 := n12_; clear n0_ n1_ n2_ n3_ n4_ n5_ n6_ n7_ n8_ n9_ n10_ n11_ n12_; clear hb hbox hg; have hnb29 := NB234_223.out; have hnc29 := NB223_234.out; have hnb30 := NB234_224.out; have hnc30 := NB224_234.out; have hnb31 := NB234_230.out; have hnc31 := NB230_234.out; have hcz32_0 : w28.cell? ⟨gb234, 0, none⟩ = some (.int .i64 0) := (blk_cell BK234.out 0).trans rfl; have hcz32_1 : w28.cell? ⟨gb234, 1, none⟩ = some (.int .i64 0) := (blk_cell BK234.out 1).trans rfl; have hfz32_0 := blk_frozen BK234.out 0; have hfz32_1 := blk_frozen BK234.out 1))
        (try simp only [Act.put, List.setIfInBounds_toArray, List.set_cons_zero, List.set_cons_succ])
        go_cut [61] (fun v61 wc => ∃ (kq : Nat) (x61_9 : Bool), v61 = .bool x61_9 ∧ Aside0 (laws_FnSpanMeet.j1 kq t225 t226 t229 t233 x61_9 t219 t220 t221 t222 t227 t228 t231 t232 = some r) ∧ Aside0 (kq ≤ kj2) ∧ Aside0 (wc.heap[gb223]? = some (.cells #[.int .i64 t219, .int .i64 t220] 29 (0, 0))) ∧ Aside0 (wc.heap[gb224]? = some (.cells #[.int .i64 t221, .int .i64 t222] 29 (0, 0))) ∧ Aside0 (wc.heap[gb230]? = some (.cells #[.int .i64 t227, .int .i64 t228] 29 (0, 0))) ∧ Aside0 (wc.heap[gb234]? = some (.cells #[.int .i64 t231, .int .i64 t232] 29 (0, 0))) ∧ Aside0 (Below w.heap.size w wc))
        case first =>
          have H := HC10.out
          clear HC10
          by_cases c33 : (t233 != t229) = true
          · exact absurd c33 (by have e0 := EQ1a.out; have e1 := EQ1b.out; have e2 := EQ1c.out; (try subst e0); (try subst e1); (try subst e2); first | (simp; done) | simp_all)
          · rw [if_neg c33] at H
            have c33b0 : (t233 != t229) = false := by simpa using c33
            (try (have c33b1 : decide (t233 = t229) = true := by simpa using c33))
            (try (have c33b2 : (t233 == t229) = true := by simpa using c33))
            clear c33
            (first | rw [c33b0] | (simp only [i64_w, i32_w]; rw [c33b0]) | skip)
            by_cases c34 : (!(t231 == t227) || (!(t232 == t228))) = true
            · exact absurd c34 (by have e0 := EQ1a.out; have e1 := EQ1b.out; have e2 := EQ1c.out; (try subst e0); (try subst e1); (try subst e2); first | (simp; done) | simp_all)
            · rw [if_neg c34] at H
              have c34b0 : (!(t231 == t227) || (!(t232 == t228))) = false := by simpa using c34
              clear c34
              replace H := Option.bind_eq_some_iff.mp H
              obtain ⟨t235, A420, H⟩ := H
              replace H : (if t235 = true then ((spec_SpanOk.f t221 t222).bind fun t236 => (laws_FnSpanMeet.j1 kj2 t225 t226 t229 t233 (!t236) t219 t220 t221 t222 t227 t228 t231 t232)) else (laws_FnSpanMeet.j1 kj2 t225 t226 t229 t233 true t219 t220 t221 t222 t227 t228 t231 t232)) = some r := H
              have A42 := Aside0.mk A420
              clear A420
              by_cases c43 : t235 = true
              · subst c43
                have H1 : ((spec_SpanOk.f t221 t222).bind fun t236 => (laws_FnSpanMeet.j1 kj2 t225 t226 t229 t233 (!t236) t219 t220 t221 t222 t227 t228 t231 t232)) = some r := by rw [if_pos rfl] at H; exact H
                clear H
                have H := H1
                clear H1
                replace H := Option.bind_eq_some_iff.mp H
                obtain ⟨t236, A440, H⟩ := H
                replace H : (laws_FnSpanMeet.j1 kj2 t225 t226 t229 t233 (!t236) t219 t220 t221 t222 t227 t228 t231 t232) = some r := H
                have A44 := Aside0.mk A440
                clear A440
                have H' := Aside0.mk H
                clear H
                have hnb45 := NB234_223.out
                have hnc45 := NB223_234.out
                have hnb46 := NB234_224.out
                have hnc46 := NB224_234.out
                have hnb47 := NB234_230.out
                have hnc47 := NB230_234.out
                have hcz48_0 : w28.cell? ⟨gb234, 0, none⟩ = some (.int .i64 0) := (blk_cell BK234.out 0).trans rfl
                have hcz48_1 : w28.cell? ⟨gb234, 1, none⟩ = some (.int .i64 0) := (blk_cell BK234.out 1).trans rfl
                have hfz48_0 := blk_frozen BK234.out 0
                have hfz48_1 := blk_frozen BK234.out 1
                have hnb49 := NB230_223.out
                have hnc49 := NB223_230.out
                have hnb50 := NB230_224.out
                have hnc50 := NB224_230.out
                have hcz51_0 : w28.cell? ⟨gb230, 0, none⟩ = some (.int .i64 t227) := (blk_cell BK230.out 0).trans rfl
                have hcz51_1 : w28.cell? ⟨gb230, 1, none⟩ = some (.int .i64 t228) := (blk_cell BK230.out 1).trans rfl
                have hfz51_0 := blk_frozen BK230.out 0
                have hfz51_1 := blk_frozen BK230.out 1
                have hnb52 := NB223_224.out
                have hnc52 := NB224_223.out
                have hcz53_0 : w28.cell? ⟨gb223, 0, none⟩ = some (.int .i64 t219) := (blk_cell BK223.out 0).trans rfl
                have hcz53_1 : w28.cell? ⟨gb223, 1, none⟩ = some (.int .i64 t220) := (blk_cell BK223.out 1).trans rfl
                have hfz53_0 := blk_frozen BK223.out 0
                have hfz53_1 := blk_frozen BK223.out 1
                go_wp2_with (first | (go_at_call 34; (with_reducible refine (spec_SpanOk.calls t219 t220 true _ A42.out).mono ?_); rintro e w54 ⟨rfl, hb⟩; have n0_ := Aside0.mk (blk_below (g := gb223) (o := .cells #[.int .i64 t219, .int .i64 t220] 29 (0, 0)) (by (with_reducible repeat (first | refine blk_drewN ?_ _ | refine blk_drew ?_ | refine blk_alloc ?_ _)); refine blk_far ?_ NB223_234.out _; (with_reducible repeat (first | refine blk_drewN ?_ _ | refine blk_drew ?_ | refine blk_alloc ?_ _)); refine blk_far ?_ NB223_234.out _; (with_reducible repeat (first | refine blk_drewN ?_ _ | refine blk_drew ?_ | refine blk_alloc ?_ _)); exact BK223.out) hb); have n1_ := Aside0.mk (blk_below (g := gb224) (o := .cells #[.int .i64 t221, .int .i64 t222] 29 (0, 0)) (by (with_reducible repeat (first | refine blk_drewN ?_ _ | refine blk_drew ?_ | refine blk_alloc ?_ _)); refine blk_far ?_ NB224_234.out _; (with_reducible repeat (first | refine blk_drewN ?_ _ | refine blk_drew ?_ | refine blk_alloc ?_ _)); refine blk_far ?_ NB224_234.out _; (with_reducible repeat (first | refine blk_drewN ?_ _ | refine blk_drew ?_ | refine blk_alloc ?_ _)); exact BK224.out) hb); have n2_ := Aside0.mk (blk_below (g := gb230) (o := .cells #[.int .i64 t227, .int .i64 t228] 29 (0, 0)) (by (with_reducible repeat (first | refine blk_drewN ?_ _ | refine blk_drew ?_ | refine blk_alloc ?_ _)); refine blk_far ?_ NB230_234.out _; (with_reducible repeat (first | refine blk_drewN ?_ _ | refine blk_drew ?_ | refine blk_alloc ?_ _)); refine blk_far ?_ NB230_234.out _; (with_reducible repeat (first | refine blk_drewN ?_ _ | refine blk_drew ?_ | refine blk_alloc ?_ _)); exact BK230.out) hb); have n3_ := Aside0.mk (blk_below (g := gb234) (o := .cells #[.int .i64 t231, .int .i64 t232] 29 (0, 0)) (by (with_reducible repeat (first | refine blk_drewN ?_ _ | refine blk_drew ?_ | refine blk_alloc ?_ _)); refine blk_put (cs := #[.int .i64 t231, .int .i64 0]) ?_ 1 _ rfl; (with_reducible repeat (first | refine blk_drewN ?_ _ | refine blk_drew ?_ | refine blk_alloc ?_ _)); refine blk_put (cs := #[.int .i64 0, .int .i64 0]) ?_ 0 _ rfl; (with_reducible repeat (first | refine blk_drewN ?_ _ | refine blk_drew ?_ | refine blk_alloc ?_ _)); exact BK234.out) hb); have n4_ := Aside0.mk (below_step (by repeat (first | (with_reducible first | exact HB.out | apply below_alloc | apply pw_below_drewN | apply below_drew1 | refine below_set ?_ GE223.out | refine below_set ?_ GE224.out | refine below_set ?_ GE230.out | refine below_set ?_ GE234.out) | exact HB.out)) hb); clear BK223; clear BK224; clear BK230; clear BK234; clear HB; have BK223 := n0_; have BK224 := n1_; have BK230 := n2_; have BK234 := n3_; have HB := n4_; clear n0_ n1_ n2_ n3_ n4_; (try clear hb); (try clear hb2); (try clear hk); (try clear hi); have hcz55_0 : w54.cell? ⟨gb224, 0, none⟩ = some (.int .i64 t221) := (blk_cell BK224.out 0).trans rfl; have hcz55_1 : w54.cell? ⟨gb224, 1, none⟩ = some (.int .i64 t222) := (blk_cell BK224.out 1).trans rfl; have hfz55_0 := blk_frozen BK224.out 0; have hfz55_1 := blk_frozen BK224.out 1) | (go_at_call 34; (with_reducible refine (spec_SpanOk.calls t221 t222 t236 _ A44.out).mono ?_); rintro e w56 ⟨rfl, hb⟩; have n0_ := Aside0.mk (blk_below (g := gb223) (o := .cells #[.int .i64 t219, .int .i64 t220] 29 (0, 0)) (by (with_reducible repeat (first | refine blk_drewN ?_ _ | refine blk_drew ?_ | refine blk_alloc ?_ _)); exact BK223.out) hb); have n1_ := Aside0.mk (blk_below (g := gb224) (o := .cells #[.int .i64 t221, .int .i64 t222] 29 (0, 0)) (by (with_reducible repeat (first | refine blk_drewN ?_ _ | refine blk_drew ?_ | refine blk_alloc ?_ _)); exact BK224.out) hb); have n2_ := Aside0.mk (blk_below (g := gb230) (o := .cells #[.int .i64 t227, .int .i64 t228] 29 (0, 0)) (by (with_reducible repeat (first | refine blk_drewN ?_ _ | refine blk_drew ?_ | refine blk_alloc ?_ _)); exact BK230.out) hb); have n3_ := Aside0.mk (blk_below (g := gb234) (o := .cells #[.int .i64 t231, .int .i64 t232] 29 (0, 0)) (by (with_reducible repeat (first | refine blk_drewN ?_ _ | refine blk_drew ?_ | refine blk_alloc ?_ _)); exact BK234.out) hb); have n4_ := Aside0.mk (below_step (by repeat (first | (with_reducible first | exact HB.out | apply below_alloc | apply pw_below_drewN | apply below_drew1 | refine below_set ?_ GE223.out | refine below_set ?_ GE224.out | refine below_set ?_ GE230.out | refine below_set ?_ GE234.out) | exact HB.out)) hb); clear BK223; clear BK224; clear BK230; clear BK234; clear HB; have BK223 := n0_; have BK224 := n1_; have BK230 := n2_; have BK234 := n3_; have HB := n4_; clear n0_ n1_ n2_ n3_ n4_; (try clear hb); (try clear hb2); (try clear hk); (try clear hi)))
                go_meet
                case rel => exact ⟨_, (!t236), (by first | rfl | (simp; done) | (simp [*]; done)), H', ⟨by have := HJ2.out; first | omega | exact Nat.le_refl _⟩, ⟨by (with_reducible repeat (first | refine blk_drewN ?_ _ | refine blk_drew ?_ | refine blk_alloc ?_ _)); exact BK223.out⟩, ⟨by (with_reducible repeat (first | refine blk_drewN ?_ _ | refine blk_drew ?_ | refine blk_alloc ?_ _)); exact BK224.out⟩, ⟨by (with_reducible repeat (first | refine blk_drewN ?_ _ | refine blk_drew ?_ | refine blk_alloc ?_ _)); exact BK230.out⟩, ⟨by (with_reducible repeat (first | refine blk_drewN ?_ _ | refine blk_drew ?_ | refine blk_alloc ?_ _)); exact BK234.out⟩, ⟨by repeat (first | (with_reducible first | exact HB.out | apply below_alloc | apply pw_below_drewN | apply below_drew1 | refine below_set ?_ GE223.out | refine below_set ?_ GE224.out | refine below_set ?_ GE230.out | refine below_set ?_ GE234.out) | exact HB.out)⟩⟩
              · replace c43 := Bool.eq_false_iff.mpr c43
                subst c43
                have H1 : (laws_FnSpanMeet.j1 kj2 t225 t226 t229 t233 true t219 t220 t221 t222 t227 t228 t231 t232) = some r := by rw [if_neg (show ¬ (false = true) by decide)] at H; exact H
                clear H
                have H := H1
                clear H1
                have H' := Aside0.mk H
                clear H
                have hnb57 := NB234_223.out
                have hnc57 := NB223_234.out
                have hnb58 := NB234_224.out
                have hnc58 := NB224_234.out
                have hnb59 := NB234_230.out
                have hnc59 := NB230_234.out
                have hcz60_0 : w28.cell? ⟨gb234, 0, none⟩ = some (.int .i64 0) := (blk_cell BK234.out 0).trans rfl
                have hcz60_1 : w28.cell? ⟨gb234, 1, none⟩ = some (.int .i64 0) := (blk_cell BK234.out 1).trans rfl
                have hfz60_0 := blk_frozen BK234.out 0
                have hfz60_1 := blk_frozen BK234.out 1
                have hnb61 := NB230_223.out
                have hnc61 := NB223_230.out
                have hnb62 := NB230_224.out
                have hnc62 := NB224_230.out
                have hcz63_0 : w28.cell? ⟨gb230, 0, none⟩ = some (.int .i64 t227) := (blk_cell BK230.out 0).trans rfl
                have hcz63_1 : w28.cell? ⟨gb230, 1, none⟩ = some (.int .i64 t228) := (blk_cell BK230.out 1).trans rfl
                have hfz63_0 := blk_frozen BK230.out 0
                have hfz63_1 := blk_frozen BK230.out 1
                have hnb64 := NB223_224.out
                have hnc64 := NB224_223.out
                have hcz65_0 : w28.cell? ⟨gb223, 0, none⟩ = some (.int .i64 t219) := (blk_cell BK223.out 0).trans rfl
                have hcz65_1 : w28.cell? ⟨gb223, 1, none⟩ = some (.int .i64 t220) := (blk_cell BK223.out 1).trans rfl
                have hfz65_0 := blk_frozen BK223.out 0
                have hfz65_1 := blk_frozen BK223.out 1
                go_wp2_with (first | (go_at_call 34; (with_reducible refine (spec_SpanOk.calls t219 t220 false _ A42.out).mono ?_); rintro e w66 ⟨rfl, hb⟩; have n0_ := Aside0.mk (blk_below (g := gb223) (o := .cells #[.int .i64 t219, .int .i64 t220] 29 (0, 0)) (by (with_reducible repeat (first | refine blk_drewN ?_ _ | refine blk_drew ?_ | refine blk_alloc ?_ _)); refine blk_far ?_ NB223_234.out _; (with_reducible repeat (first | refine blk_drewN ?_ _ | refine blk_drew ?_ | refine blk_alloc ?_ _)); refine blk_far ?_ NB223_234.out _; (with_reducible repeat (first | refine blk_drewN ?_ _ | refine blk_drew ?_ | refine blk_alloc ?_ _)); exact BK223.out) hb); have n1_ := Aside0.mk (blk_below (g := gb224) (o := .cells #[.int .i64 t221, .int .i64 t222] 29 (0, 0)) (by (with_reducible repeat (first | refine blk_drewN ?_ _ | refine blk_drew ?_ | refine blk_alloc ?_ _)); refine blk_far ?_ NB224_234.out _; (with_reducible repeat (first | refine blk_drewN ?_ _ | refine blk_drew ?_ | refine blk_alloc ?_ _)); refine blk_far ?_ NB224_234.out _; (with_reducible repeat (first | refine blk_drewN ?_ _ | refine blk_drew ?_ | refine blk_alloc ?_ _)); exact BK224.out) hb); have n2_ := Aside0.mk (blk_below (g := gb230) (o := .cells #[.int .i64 t227, .int .i64 t228] 29 (0, 0)) (by (with_reducible repeat (first | refine blk_drewN ?_ _ | refine blk_drew ?_ | refine blk_alloc ?_ _)); refine blk_far ?_ NB230_234.out _; (with_reducible repeat (first | refine blk_drewN ?_ _ | refine blk_drew ?_ | refine blk_alloc ?_ _)); refine blk_far ?_ NB230_234.out _; (with_reducible repeat (first | refine blk_drewN ?_ _ | refine blk_drew ?_ | refine blk_alloc ?_ _)); exact BK230.out) hb); have n3_ := Aside0.mk (blk_below (g := gb234) (o := .cells #[.int .i64 t231, .int .i64 t232] 29 (0, 0)) (by (with_reducible repeat (first | refine blk_drewN ?_ _ | refine blk_drew ?_ | refine blk_alloc ?_ _)); refine blk_put (cs := #[.int .i64 t231, .int .i64 0]) ?_ 1 _ rfl; (with_reducible repeat (first | refine blk_drewN ?_ _ | refine blk_drew ?_ | refine blk_alloc ?_ _)); refine blk_put (cs := #[.int .i64 0, .int .i64 0]) ?_ 0 _ rfl; (with_reducible repeat (first | refine blk_drewN ?_ _ | refine blk_drew ?_ | refine blk_alloc ?_ _)); exact BK234.out) hb); have n4_ := Aside0.mk (below_step (by repeat (first | (with_reducible first | exact HB.out | apply below_alloc | apply pw_below_drewN | apply below_drew1 | refine below_set ?_ GE223.out | refine below_set ?_ GE224.out | refine below_set ?_ GE230.out | refine below_set ?_ GE234.out) | exact HB.out)) hb); clear BK223; clear BK224; clear BK230; clear BK234; clear HB; have BK223 := n0_; have BK224 := n1_; have BK230 := n2_; have BK234 := n3_; have HB := n4_; clear n0_ n1_ n2_ n3_ n4_; (try clear hb); (try clear hb2); (try clear hk); (try clear hi)))
                go_meet
                case rel => exact ⟨_, (true), (by first | rfl | (simp; done) | (simp [*]; done)), H', ⟨by have := HJ2.out; first | omega | exact Nat.le_refl _⟩, ⟨by (with_reducible repeat (first | refine blk_drewN ?_ _ | refine blk_drew ?_ | refine blk_alloc ?_ _)); exact BK223.out⟩, ⟨by (with_reducible repeat (first | refine blk_drewN ?_ _ | refine blk_drew ?_ | refine blk_alloc ?_ _)); exact BK224.out⟩, ⟨by (with_reducible repeat (first | refine blk_drewN ?_ _ | refine blk_drew ?_ | refine blk_alloc ?_ _)); exact BK230.out⟩, ⟨by (with_reducible repeat (first | refine blk_drewN ?_ _ | refine blk_drew ?_ | refine blk_alloc ?_ _)); exact BK234.out⟩, ⟨by repeat (first | (with_reducible first | exact HB.out | apply below_alloc | apply pw_below_drewN | apply below_drew1 | refine below_set ?_ GE223.out | refine below_set ?_ GE224.out | refine below_set ?_ GE230.out | refine below_set ?_ GE234.out) | exact HB.out)⟩⟩
        case rest =>
          clear HC10
          try clear c1
          try clear c2
          try clear p2
          try clear c3
          try clear c4
          try clear c4b0
          try clear c4b1
          try clear c5
          try clear c6
          try clear c8
          try clear c14
          try clear c22
          try clear c23
          try clear c25
          try clear c29
          try clear c30
          try clear c31
          try clear c32
          try clear c33
          try clear c33b0
          try clear c33b1
          try clear c33b2
          try clear c34
          try clear c34b0
          try clear c35
          try clear c36
          try clear c37
          try clear c39
          try clear c40
          try clear c43
          try clear c45
          try clear c46
          try clear c47
          try clear c49
          try clear c50
          try clear c52
          try clear c57
          try clear c58
          try clear c59
          try clear c61
          try clear c62
          try clear c64
          try clear hcz15_0
          try clear hcz15_1
          try clear hcz16_0
          try clear hcz16_1
          try clear hcz18_0
          try clear hcz18_1
          try clear hcz19_0
          try clear hcz19_1
          try clear hcz24_0
          try clear hcz24_1
          try clear hcz25_0
          try clear hcz25_1
          try clear hcz26_0
          try clear hcz26_1
          try clear hcz32_0
          try clear hcz32_1
          try clear hcz38_0
          try clear hcz38_1
          try clear hcz41_0
          try clear hcz41_1
          try clear hcz48_0
          try clear hcz48_1
          try clear hcz51_0
          try clear hcz51_1
          try clear hcz53_0
          try clear hcz53_1
          try clear hcz55_0
          try clear hcz55_1
          try clear hcz60_0
          try clear hcz60_1
          try clear hcz63_0
          try clear hcz63_1
          try clear hcz65_0
          try clear hcz65_1
          try clear hfz15_0
          try clear hfz15_1
          try clear hfz16_0
          try clear hfz16_1
          try clear hfz18_0
          try clear hfz18_1
          try clear hfz19_0
          try clear hfz19_1
          try clear hfz24_0
          try clear hfz24_1
          try clear hfz25_0
          try clear hfz25_1
          try clear hfz26_0
          try clear hfz26_1
          try clear hfz32_0
          try clear hfz32_1
          try clear hfz38_0
          try clear hfz38_1
          try clear hfz41_0
          try clear hfz41_1
          try clear hfz48_0
          try clear hfz48_1
          try clear hfz51_0
          try clear hfz51_1
          try clear hfz53_0
          try clear hfz53_1
          try clear hfz55_0
          try clear hfz55_1
          try clear hfz60_0
          try clear hfz60_1
          try clear hfz63_0
          try clear hfz63_1
          try clear hfz65_0
          try clear hfz65_1
          try clear p2
          obtain ⟨kq, x61_9, rfl, HA, HJ9, BK223, BK224, BK230, BK234, HB⟩ := hcut
          cases kq with
          | zero => exact absurd HA.out (by simp [laws_FnSpanMeet.j1])
          | succ kj9 =>
            have H := HA.out
            clear HA
            simp only [laws_FnSpanMeet.j1] at H
            by_cases c67 : x61_9 = true
            · subst c67
              have H1 : (if (t233 == t229) = true then (some (t231 == t227 && (t232 == t228))) else (some false)) = some r := by rw [if_pos rfl] at H; exact H
              clear H
              have H := H1
              clear H1
              by_cases c68 : (t233 == t229) = true
              · rw [if_pos c68] at H
                have c68b0 : (t233 == t229) = true := c68
                (try (have c68b1 : decide (t233 = t229) = true := by simpa using c68))
                (try (have c68b2 : (t233 == t229) = true := by simpa using c68))
                clear c68
                obtain rfl := Option.some.inj H
                have hnb69 := NB234_223.out
                have hnc69 := NB223_234.out
                have hnb70 := NB234_224.out
                have hnc70 := NB224_234.out
                have hnb71 := NB234_230.out
                have hnc71 := NB230_234.out
                have hcz72_0 : wc.cell? ⟨gb234, 0, none⟩ = some (.int .i64 t231) := (blk_cell BK234.out 0).trans rfl
                have hcz72_1 : wc.cell? ⟨gb234, 1, none⟩ = some (.int .i64 t232) := (blk_cell BK234.out 1).trans rfl
                have hfz72_0 := blk_frozen BK234.out 0
                have hfz72_1 := blk_frozen BK234.out 1
                have hnb73 := NB230_223.out
                have hnc73 := NB223_230.out
                have hnb74 := NB230_224.out
                have hnc74 := NB224_230.out
                have hcz75_0 : wc.cell? ⟨gb230, 0, none⟩ = some (.int .i64 t227) := (blk_cell BK230.out 0).trans rfl
                have hcz75_1 : wc.cell? ⟨gb230, 1, none⟩ = some (.int .i64 t228) := (blk_cell BK230.out 1).trans rfl
                have hfz75_0 := blk_frozen BK230.out 0
                have hfz75_1 := blk_frozen BK230.out 1
                go_wp2
                go_ret
                exact ⟨by first | rfl | (simp [errW_none, errW_some] <;> rfl) | (simp [*, errW_none, errW_some] <;> rfl), by repeat (first | (with_reducible first | exact HB.out | apply below_alloc | apply pw_below_drewN | apply below_drew1 | refine below_set ?_ GE223.out | refine below_set ?_ GE224.out | refine below_set ?_ GE230.out | refine below_set ?_ GE234.out) | exact HB.out)⟩
              · exact absurd (by have e0 := EQ1a.out; have e1 := EQ1b.out; have e2 := EQ1c.out; (try subst e0); (try subst e1); (try subst e2); first | (simp; done) | simp_all) c68
            · replace c67 := Bool.eq_false_iff.mpr c67
              subst c67
              have H1 : ((impl_SpanHas.f t219 t220 t225 t226).bind fun t237 => (if t237 = true then ((impl_SpanHas.f t221 t222 t225 t226).bind fun t238 => (if t233 = true then ((impl_SpanHas.f t231 t232 t225 t226).bind fun t239 => (if (t238 == t239) = true then ((impl_SpanWithin.f t231 t232 t219 t220).bind fun t240 => (if t240 = true then ((impl_SpanWithin.f t231 t232 t221 t222).bind fun t241 => (some t241)) else (some false))) else (some false))) else (if (t238 == false) = true then (some true) else (some false)))) else (if t233 = true then ((impl_SpanHas.f t231 t232 t225 t226).bind fun t242 => (if (false == t242) = true then ((impl_SpanWithin.f t231 t232 t219 t220).bind fun t243 => (if t243 = true then ((impl_SpanWithin.f t231 t232 t221 t222).bind fun t244 => (some t244)) else (some false))) else (some false))) else (if (false == false) = true then (some true) else (some false))))) = some r := by rw [if_neg (show ¬ (false = true) by decide)] at H; exact H
              clear H
              have H := H1
              clear H1
              replace H := Option.bind_eq_some_iff.mp H
              obtain ⟨t237, A760, H⟩ := H
              replace H : (if t237 = true then ((impl_SpanHas.f t221 t222 t225 t226).bind fun t238 => (if t233 = true then ((impl_SpanHas.f t231 t232 t225 t226).bind fun t239 => (if (t238 == t239) = true then ((impl_SpanWithin.f t231 t232 t219 t220).bind fun t240 => (if t240 = true then ((impl_SpanWithin.f t231 t232 t221 t222).bind fun t241 => (some t241)) else (some false))) else (some false))) else (if (t238 == false) = true then (some true) else (some false)))) else (if t233 = true then ((impl_SpanHas.f t231 t232 t225 t226).bind fun t242 => (if (false == t242) = true then ((impl_SpanWithin.f t231 t232 t219 t220).bind fun t243 => (if t243 = true then ((impl_SpanWithin.f t231 t232 t221 t222).bind fun t244 => (some t244)) else (some false))) else (some false))) else (if (false == false) = true then (some true) else (some false)))) = some r := H
              have A76 := Aside0.mk A760
              clear A760
              by_cases c77 : t237 = true
              · subst c77
                have H1 : ((impl_SpanHas.f t221 t222 t225 t226).bind fun t238 => (if t233 = true then ((impl_SpanHas.f t231 t232 t225 t226).bind fun t239 => (if (t238 == t239) = true then ((impl_SpanWithin.f t231 t232 t219 t220).bind fun t240 => (if t240 = true then ((impl_SpanWithin.f t231 t232 t221 t222).bind fun t241 => (some t241)) else (some false))) else (some false))) else (if (t238 == false) = true then (some true) else (some false)))) = some r := by rw [if_pos rfl] at H; exact H
                clear H
                have H := H1
                clear H1
                replace H := Option.bind_eq_some_iff.mp H
                obtain ⟨t238, A780, H⟩ := H
                replace H : (if t233 = true then ((impl_SpanHas.f t231 t232 t225 t226).bind fun t239 => (if (t238 == t239) = true then ((impl_SpanWithin.f t231 t232 t219 t220).bind fun t240 => (if t240 = true then ((impl_SpanWithin.f t231 t232 t221 t222).bind fun t241 => (some t241)) else (some false))) else (some false))) else (if (t238 == false) = true then (some true) else (some false))) = some r := H
                have A78 := Aside0.mk A780
                clear A780
                by_cases c79 : t233 = true
                · subst c79
                  have H1 : ((impl_SpanHas.f t231 t232 t225 t226).bind fun t239 => (if (t238 == t239) = true then ((impl_SpanWithin.f t231 t232 t219 t220).bind fun t240 => (if t240 = true then ((impl_SpanWithin.f t231 t232 t221 t222).bind fun t241 => (some t241)) else (some false))) else (some false))) = some r := by rw [if_pos rfl] at H; exact H
                  clear H
                  have H := H1
                  clear H1
                  replace H := Option.bind_eq_some_iff.mp H
                  obtain ⟨t239, A800, H⟩ := H
                  replace H : (if (t238 == t239) = true then ((impl_SpanWithin.f t231 t232 t219 t220).bind fun t240 => (if t240 = true then ((impl_SpanWithin.f t231 t232 t221 t222).bind fun t241 => (some t241)) else (some false))) else (some false)) = some r := H
                  have A80 := Aside0.mk A800
                  clear A800
                  by_cases c81 : (t238 == t239) = true
                  · rw [if_pos c81] at H
                    have c81b0 : (t238 == t239) = true := c81
                    (try (have c81b1 : decide (t238 = t239) = true := by simpa using c81))
                    (try (have c81b2 : (t238 == t239) = true := by simpa using c81))
                    clear c81
                    replace H := Option.bind_eq_some_iff.mp H
                    obtain ⟨t240, A820, H⟩ := H
                    replace H : (if t240 = true then ((impl_SpanWithin.f t231 t232 t221 t222).bind fun t241 => (some t241)) else (some false)) = some r := H
                    have A82 := Aside0.mk A820
                    clear A820
                    by_cases c83 : t240 = true
                    · subst c83
                      have H1 : ((impl_SpanWithin.f t231 t232 t221 t222).bind fun t241 => (some t241)) = some r := by rw [if_pos rfl] at H; exact H
                      clear H
                      have H := H1
                      clear H1
                      replace H := Option.bind_eq_some_iff.mp H
                      obtain ⟨t241, A840, H⟩ := H
                      replace H : (some t241) = some r := H
                      have A84 := Aside0.mk A840
                      clear A840
                      obtain rfl := Option.some.inj H
                      have hnb85 := NB223_224.out
                      have hnc85 := NB224_223.out
                      have hnb86 := NB223_230.out
                      have hnc86 := NB230_223.out
                      have hnb87 := NB223_234.out
                      have hnc87 := NB234_223.out
                      have hcz88_0 : wc.cell? ⟨gb223, 0, none⟩ = some (.int .i64 t219) := (blk_cell BK223.out 0).trans rfl
                      have hcz88_1 : wc.cell? ⟨gb223, 1, none⟩ = some (.int .i64 t220) := (blk_cell BK223.out 1).trans rfl
                      have hfz88_0 := blk_frozen BK223.out 0
                      have hfz88_1 := blk_frozen BK223.out 1
                      go_wp2_with (first | ((with_reducible refine gate_callee (f := 28) rfl ?_); refine goesL_ (some 73) rfl rfl Try.func28 (by kernel_rfl) rfl #[.agg #[.int .i64 t219, .int .i64 t220], .int .i64 t225, .int .i64 t226] rfl (by (try simp only [List.map_toArray, List.map_cons, List.map_nil]); first | done | rfl | (simp only [List.length_drop, List.length_take]; rfl)) ?_; (with_reducible refine (impl_SpanHas.calls t219 t220 t225 t226 true _ A76.out).mono ?_); rintro e w89 ⟨rfl, hb⟩; refine ⟨_, rfl, ?_⟩; have n0_ := Aside0.mk (blk_below (g := gb223) (o := .cells #[.int .i64 t219, .int .i64 t220] 29 (0, 0)) (by (with_reducible repeat (first | refine blk_drewN ?_ _ | refine blk_drew ?_ | refine blk_alloc ?_ _)); exact BK223.out) hb); have n1_ := Aside0.mk (blk_below (g := gb224) (o := .cells #[.int .i64 t221, .int .i64 t222] 29 (0, 0)) (by (with_reducible repeat (first | refine blk_drewN ?_ _ | refine blk_drew ?_ | refine blk_alloc ?_ _)); exact BK224.out) hb); have n2_ := Aside0.mk (blk_below (g := gb230) (o := .cells #[.int .i64 t227, .int .i64 t228] 29 (0, 0)) (by (with_reducible repeat (first | refine blk_drewN ?_ _ | refine blk_drew ?_ | refine blk_alloc ?_ _)); exact BK230.out) hb); have n3_ := Aside0.mk (blk_below (g := gb234) (o := .cells #[.int .i64 t231, .int .i64 t232] 29 (0, 0)) (by (with_reducible repeat (first | refine blk_drewN ?_ _ | refine blk_drew ?_ | refine blk_alloc ?_ _)); exact BK234.out) hb); have n4_ := Aside0.mk (below_step (by repeat (first | (with_reducible first | exact HB.out | apply below_alloc | apply pw_below_drewN | apply below_drew1 | refine below_set ?_ GE223.out | refine below_set ?_ GE224.out | refine below_set ?_ GE230.out | refine below_set ?_ GE234.out) | exact HB.out)) hb); clear BK223; clear BK224; clear BK230; clear BK234; clear HB; have BK223 := n0_; have BK224 := n1_; have BK230 := n2_; have BK234 := n3_; have HB := n4_; clear n0_ n1_ n2_ n3_ n4_; (try clear hb); (try clear hb2); (try clear hk); (try clear hi); have hnb90 := NB224_230.out; have hnc90 := NB230_224.out; have hnb91 := NB224_234.out; have hnc91 := NB234_224.out; have hcz92_0 : w89.cell? ⟨gb224, 0, none⟩ = some (.int .i64 t221) := (blk_cell BK224.out 0).trans rfl; have hcz92_1 : w89.cell? ⟨gb224, 1, none⟩ = some (.int .i64 t222) := (blk_cell BK224.out 1).trans rfl; have hfz92_0 := blk_frozen BK224.out 0; have hfz92_1 := blk_frozen BK224.out 1) | (go_at_call 28; (with_reducible refine (impl_SpanHas.calls t221 t222 t225 t226 t238 _ A78.out).mono ?_); rintro e w93 ⟨rfl, hb⟩; have n0_ := Aside0.mk (blk_below (g := gb223) (o := .cells #[.int .i64 t219, .int .i64 t220] 29 (0, 0)) (by (with_reducible repeat (first | refine blk_drewN ?_ _ | refine blk_drew ?_ | refine blk_alloc ?_ _)); exact BK223.out) hb); have n1_ := Aside0.mk (blk_below (g := gb224) (o := .cells #[.int .i64 t221, .int .i64 t222] 29 (0, 0)) (by (with_reducible repeat (first | refine blk_drewN ?_ _ | refine blk_drew ?_ | refine blk_alloc ?_ _)); exact BK224.out) hb); have n2_ := Aside0.mk (blk_below (g := gb230) (o := .cells #[.int .i64 t227, .int .i64 t228] 29 (0, 0)) (by (with_reducible repeat (first | refine blk_drewN ?_ _ | refine blk_drew ?_ | refine blk_alloc ?_ _)); exact BK230.out) hb); have n3_ := Aside0.mk (blk_below (g := gb234) (o := .cells #[.int .i64 t231, .int .i64 t232] 29 (0, 0)) (by (with_reducible repeat (first | refine blk_drewN ?_ _ | refine blk_drew ?_ | refine blk_alloc ?_ _)); exact BK234.out) hb); have n4_ := Aside0.mk (below_step (by repeat (first | (with_reducible first | exact HB.out | apply below_alloc | apply pw_below_drewN | apply below_drew1 | refine below_set ?_ GE223.out | refine below_set ?_ GE224.out | refine below_set ?_ GE230.out | refine below_set ?_ GE234.out) | exact HB.out)) hb); clear BK223; clear BK224; clear BK230; clear BK234; clear HB; have BK223 := n0_; have BK224 := n1_; have BK230 := n2_; have BK234 := n3_; have HB := n4_; clear n0_ n1_ n2_ n3_ n4_; (try clear hb); (try clear hb2); (try clear hk); (try clear hi); have hnb94 := NB234_230.out; have hnc94 := NB230_234.out; have hcz95_0 : w93.cell? ⟨gb234, 0, none⟩ = some (.int .i64 t231) := (blk_cell BK234.out 0).trans rfl; have hcz95_1 : w93.cell? ⟨gb234, 1, none⟩ = some (.int .i64 t232) := (blk_cell BK234.out 1).trans rfl; have hfz95_0 := blk_frozen BK234.out 0; have hfz95_1 := blk_frozen BK234.out 1) | (go_at_call 28; (with_reducible refine (impl_SpanHas.calls t231 t232 t225 t226 t239 _ A80.out).mono ?_); rintro e w96 ⟨rfl, hb⟩; have n0_ := Aside0.mk (blk_below (g := gb223) (o := .cells #[.int .i64 t219, .int .i64 t220] 29 (0, 0)) (by (with_reducible repeat (first | refine blk_drewN ?_ _ | refine blk_drew ?_ | refine blk_alloc ?_ _)); exact BK223.out) hb); have n1_ := Aside0.mk (blk_below (g := gb224) (o := .cells #[.int .i64 t221, .int .i64 t222] 29 (0, 0)) (by (with_reducible repeat (first | refine blk_drewN ?_ _ | refine blk_drew ?_ | refine blk_alloc ?_ _)); exact BK224.out) hb); have n2_ := Aside0.mk (blk_below (g := gb230) (o := .cells #[.int .i64 t227, .int .i64 t228] 29 (0, 0)) (by (with_reducible repeat (first | refine blk_drewN ?_ _ | refine blk_drew ?_ | refine blk_alloc ?_ _)); exact BK230.out) hb); have n3_ := Aside0.mk (blk_below (g := gb234) (o := .cells #[.int .i64 t231, .int .i64 t232] 29 (0, 0)) (by (with_reducible repeat (first | refine blk_drewN ?_ _ | refine blk_drew ?_ | refine blk_alloc ?_ _)); exact BK234.out) hb); have n4_ := Aside0.mk (below_step (by repeat (first | (with_reducible first | exact HB.out | apply below_alloc | apply pw_below_drewN | apply below_drew1 | refine below_set ?_ GE223.out | refine below_set ?_ GE224.out | refine below_set ?_ GE230.out | refine below_set ?_ GE234.out) | exact HB.out)) hb); clear BK223; clear BK224; clear BK230; clear BK234; clear HB; have BK223 := n0_; have BK224 := n1_; have BK230 := n2_; have BK234 := n3_; have HB := n4_; clear n0_ n1_ n2_ n3_ n4_; (try clear hb); (try clear hb2); (try clear hk); (try clear hi); have hcz97_0 : w96.cell? ⟨gb234, 0, none⟩ = some (.int .i64 t231) := (blk_cell BK234.out 0).trans rfl; have hcz97_1 : w96.cell? ⟨gb234, 1, none⟩ = some (.int .i64 t232) := (blk_cell BK234.out 1).trans rfl; have hfz97_0 := blk_frozen BK234.out 0; have hfz97_1 := blk_frozen BK234.out 1; have hcz98_0 : w96.cell? ⟨gb223, 0, none⟩ = some (.int .i64 t219) := (blk_cell BK223.out 0).trans rfl; have hcz98_1 : w96.cell? ⟨gb223, 1, none⟩ = some (.int .i64 t220) := (blk_cell BK223.out 1).trans rfl; have hfz98_0 := blk_frozen BK223.out 0; have hfz98_1 := blk_frozen BK223.out 1) | (go_at_call 35; (with_reducible refine (impl_SpanWithin.calls t231 t232 t219 t220 true _ A82.out).mono ?_); rintro e w99 ⟨rfl, hb⟩; have n0_ := Aside0.mk (blk_below (g := gb223) (o := .cells #[.int .i64 t219, .int .i64 t220] 29 (0, 0)) (by (with_reducible repeat (first | refine blk_drewN ?_ _ | refine blk_drew ?_ | refine blk_alloc ?_ _)); exact BK223.out) hb); have n1_ := Aside0.mk (blk_below (g := gb224) (o := .cells #[.int .i64 t221, .int .i64 t222] 29 (0, 0)) (by (with_reducible repeat (first | refine blk_drewN ?_ _ | refine blk_drew ?_ | refine blk_alloc ?_ _)); exact BK224.out) hb); have n2_ := Aside0.mk (blk_below (g := gb230) (o := .cells #[.int .i64 t227, .int .i64 t228] 29 (0, 0)) (by (with_reducible repeat (first | refine blk_drewN ?_ _ | refine blk_drew ?_ | refine blk_alloc ?_ _)); exact BK230.out) hb); have n3_ := Aside0.mk (blk_below (g := gb234) (o := .cells #[.int .i64 t231, .int .i64 t232] 29 (0, 0)) (by (with_reducible repeat (first | refine blk_drewN ?_ _ | refine blk_drew ?_ | refine blk_alloc ?_ _)); exact BK234.out) hb); have n4_ := Aside0.mk (below_step (by repeat (first | (with_reducible first | exact HB.out | apply below_alloc | apply pw_below_drewN | apply below_drew1 | refine below_set ?_ GE223.out | refine below_set ?_ GE224.out | refine below_set ?_ GE230.out | refine below_set ?_ GE234.out) | exact HB.out)) hb); clear BK223; clear BK224; clear BK230; clear BK234; clear HB; have BK223 := n0_; have BK224 := n1_; have BK230 := n2_; have BK234 := n3_; have HB := n4_; clear n0_ n1_ n2_ n3_ n4_; (try clear hb); (try clear hb2); (try clear hk); (try clear hi); have hcz100_0 : w99.cell? ⟨gb234, 0, none⟩ = some (.int .i64 t231) := (blk_cell BK234.out 0).trans rfl; have hcz100_1 : w99.cell? ⟨gb234, 1, none⟩ = some (.int .i64 t232) := (blk_cell BK234.out 1).trans rfl; have hfz100_0 := blk_frozen BK234.out 0; have hfz100_1 := blk_frozen BK234.out 1; have hcz101_0 : w99.cell? ⟨gb224, 0, none⟩ = some (.int .i64 t221) := (blk_cell BK224.out 0).trans rfl; have hcz101_1 : w99.cell? ⟨gb224, 1, none⟩ = some (.int .i64 t222) := (blk_cell BK224.out 1).trans rfl; have hfz101_0 := blk_frozen BK224.out 0; have hfz101_1 := blk_frozen BK224.out 1) | (go_at_call 35; (with_reducible refine (impl_SpanWithin.calls t231 t232 t221 t222 t241 _ A84.out).mono ?_); rintro e w102 ⟨rfl, hb⟩; have n0_ := Aside0.mk (blk_below (g := gb223) (o := .cells #[.int .i64 t219, .int .i64 t220] 29 (0, 0)) (by (with_reducible repeat (first | refine blk_drewN ?_ _ | refine blk_drew ?_ | refine blk_alloc ?_ _)); exact BK223.out) hb); have n1_ := Aside0.mk (blk_below (g := gb224) (o := .cells #[.int .i64 t221, .int .i64 t222] 29 (0, 0)) (by (with_reducible repeat (first | refine blk_drewN ?_ _ | refine blk_drew ?_ | refine blk_alloc ?_ _)); exact BK224.out) hb); have n2_ := Aside0.mk (blk_below (g := gb230) (o := .cells #[.int .i64 t227, .int .i64 t228] 29 (0, 0)) (by (with_reducible repeat (first | refine blk_drewN ?_ _ | refine blk_drew ?_ | refine blk_alloc ?_ _)); exact BK230.out) hb); have n3_ := Aside0.mk (blk_below (g := gb234) (o := .cells #[.int .i64 t231, .int .i64 t232] 29 (0, 0)) (by (with_reducible repeat (first | refine blk_drewN ?_ _ | refine blk_drew ?_ | refine blk_alloc ?_ _)); exact BK234.out) hb); have n4_ := Aside0.mk (below_step (by repeat (first | (with_reducible first | exact HB.out | apply below_alloc | apply pw_below_drewN | apply below_drew1 | refine below_set ?_ GE223.out | refine below_set ?_ GE224.out | refine below_set ?_ GE230.out | refine below_set ?_ GE234.out) | exact HB.out)) hb); clear BK223; clear BK224; clear BK230; clear BK234; clear HB; have BK223 := n0_; have BK224 := n1_; have BK230 := n2_; have BK234 := n3_; have HB := n4_; clear n0_ n1_ n2_ n3_ n4_; (try clear hb); (try clear hb2); (try clear hk); (try clear hi)))
                      go_ret
                      exact ⟨by first | rfl | (simp [errW_none, errW_some] <;> rfl) | (simp [*, errW_none, errW_some] <;> rfl), by repeat (first | (with_reducible first | exact HB.out | apply below_alloc | apply pw_below_drewN | apply below_drew1 | refine below_set ?_ GE223.out | refine below_set ?_ GE224.out | refine below_set ?_ GE230.out | refine below_set ?_ GE234.out) | exact HB.out)⟩
                    · exact absurd ((Option.some.inj ((if_neg c83).symm.trans H)).trans HRT.out) (by decide)
                  · rw [if_neg c81] at H
                    exact absurd ((Option.some.inj H).trans HRT.out) (by decide)
                · replace c79 := Bool.eq_false_iff.mpr c79
                  subst c79
                  have H1 : (if (t238 == false) = true then (some true) else (some false)) = some r := by rw [if_neg (show ¬ (false = true) by decide)] at H; exact H
                  clear H
                  have H := H1
                  clear H1
                  by_cases c130 : (t238 == false) = true
                  · rw [if_pos c130] at H
                    have c130b0 : (t238 == false) = true := c130
                    (try (have c130b1 : decide (t238 = false) = true := by simpa using c130))
                    (try (have c130b2 : (t238 == false) = true := by simpa using c130))
                    clear c130
                    obtain rfl := Option.some.inj H
                    have hnb131 := NB223_224.out
                    have hnc131 := NB224_223.out
                    have hnb132 := NB223_230.out
                    have hnc132 := NB230_223.out
                    have hnb133 := NB223_234.out
                    have hnc133 := NB234_223.out
                    have hcz134_0 : wc.cell? ⟨gb223, 0, none⟩ = some (.int .i64 t219) := (blk_cell BK223.out 0).trans rfl
                    have hcz134_1 : wc.cell? ⟨gb223, 1, none⟩ = some (.int .i64 t220) := (blk_cell BK223.out 1).trans rfl
                    have hfz134_0 := blk_frozen BK223.out 0
                    have hfz134_1 := blk_frozen BK223.out 1
                    go_wp2_with (first | ((with_reducible refine gate_callee (f := 28) rfl ?_); refine goesL_ (some 73) rfl rfl Try.func28 (by kernel_rfl) rfl #[.agg #[.int .i64 t219, .int .i64 t220], .int .i64 t225, .int .i64 t226] rfl (by (try simp only [List.map_toArray, List.map_cons, List.map_nil]); first | done | rfl | (simp only [List.length_drop, List.length_take]; rfl)) ?_; (with_reducible refine (impl_SpanHas.calls t219 t220 t225 t226 true _ A76.out).mono ?_); rintro e w135 ⟨rfl, hb⟩; refine ⟨_, rfl, ?_⟩; have n0_ := Aside0.mk (blk_below (g := gb223) (o := .cells #[.int .i64 t219, .int .i64 t220] 29 (0, 0)) (by (with_reducible repeat (first | refine blk_drewN ?_ _ | refine blk_drew ?_ | refine blk_alloc ?_ _)); exact BK223.out) hb); have n1_ := Aside0.mk (blk_below (g := gb224) (o := .cells #[.int .i64 t221, .int .i64 t222] 29 (0, 0)) (by (with_reducible repeat (first | refine blk_drewN ?_ _ | refine blk_drew ?_ | refine blk_alloc ?_ _)); exact BK224.out) hb); have n2_ := Aside0.mk (blk_below (g := gb230) (o := .cells #[.int .i64 t227, .int .i64 t228] 29 (0, 0)) (by (with_reducible repeat (first | refine blk_drewN ?_ _ | refine blk_drew ?_ | refine blk_alloc ?_ _)); exact BK230.out) hb); have n3_ := Aside0.mk (blk_below (g := gb234) (o := .cells #[.int .i64 t231, .int .i64 t232] 29 (0, 0)) (by (with_reducible repeat (first | refine blk_drewN ?_ _ | refine blk_drew ?_ | refine blk_alloc ?_ _)); exact BK234.out) hb); have n4_ := Aside0.mk (below_step (by repeat (first | (with_reducible first | exact HB.out | apply below_alloc | apply pw_below_drewN | apply below_drew1 | refine below_set ?_ GE223.out | refine below_set ?_ GE224.out | refine below_set ?_ GE230.out | refine below_set ?_ GE234.out) | exact HB.out)) hb); clear BK223; clear BK224; clear BK230; clear BK234; clear HB; have BK223 := n0_; have BK224 := n1_; have BK230 := n2_; have BK234 := n3_; have HB := n4_; clear n0_ n1_ n2_ n3_ n4_; (try clear hb); (try clear hb2); (try clear hk); (try clear hi); have hnb136 := NB224_230.out; have hnc136 := NB230_224.out; have hnb137 := NB224_234.out; have hnc137 := NB234_224.out; have hcz138_0 : w135.cell? ⟨gb224, 0, none⟩ = some (.int .i64 t221) := (blk_cell BK224.out 0).trans rfl; have hcz138_1 : w135.cell? ⟨gb224, 1, none⟩ = some (.int .i64 t222) := (blk_cell BK224.out 1).trans rfl; have hfz138_0 := blk_frozen BK224.out 0; have hfz138_1 := blk_frozen BK224.out 1) | (go_at_call 28; (with_reducible refine (impl_SpanHas.calls t221 t222 t225 t226 t238 _ A78.out).mono ?_); rintro e w139 ⟨rfl, hb⟩; have n0_ := Aside0.mk (blk_below (g := gb223) (o := .cells #[.int .i64 t219, .int .i64 t220] 29 (0, 0)) (by (with_reducible repeat (first | refine blk_drewN ?_ _ | refine blk_drew ?_ | refine blk_alloc ?_ _)); exact BK223.out) hb); have n1_ := Aside0.mk (blk_below (g := gb224) (o := .cells #[.int .i64 t221, .int .i64 t222] 29 (0, 0)) (by (with_reducible repeat (first | refine blk_drewN ?_ _ | refine blk_drew ?_ | refine blk_alloc ?_ _)); exact BK224.out) hb); have n2_ := Aside0.mk (blk_below (g := gb230) (o := .cells #[.int .i64 t227, .int .i64 t228] 29 (0, 0)) (by (with_reducible repeat (first | refine blk_drewN ?_ _ | refine blk_drew ?_ | refine blk_alloc ?_ _)); exact BK230.out) hb); have n3_ := Aside0.mk (blk_below (g := gb234) (o := .cells #[.int .i64 t231, .int .i64 t232] 29 (0, 0)) (by (with_reducible repeat (first | refine blk_drewN ?_ _ | refine blk_drew ?_ | refine blk_alloc ?_ _)); exact BK234.out) hb); have n4_ := Aside0.mk (below_step (by repeat (first | (with_reducible first | exact HB.out | apply below_alloc | apply pw_below_drewN | apply below_drew1 | refine below_set ?_ GE223.out | refine below_set ?_ GE224.out | refine below_set ?_ GE230.out | refine below_set ?_ GE234.out) | exact HB.out)) hb); clear BK223; clear BK224; clear BK230; clear BK234; clear HB; have BK223 := n0_; have BK224 := n1_; have BK230 := n2_; have BK234 := n3_; have HB := n4_; clear n0_ n1_ n2_ n3_ n4_; (try clear hb); (try clear hb2); (try clear hk); (try clear hi)))
                    go_ret
                    exact ⟨by first | rfl | (simp [errW_none, errW_some] <;> rfl) | (simp [*, errW_none, errW_some] <;> rfl), by repeat (first | (with_reducible first | exact HB.out | apply below_alloc | apply pw_below_drewN | apply below_drew1 | refine below_set ?_ GE223.out | refine below_set ?_ GE224.out | refine below_set ?_ GE230.out | refine below_set ?_ GE234.out) | exact HB.out)⟩
                  · rw [if_neg c130] at H
                    exact absurd ((Option.some.inj H).trans HRT.out) (by decide)
              · replace c77 := Bool.eq_false_iff.mpr c77
                subst c77
                have H1 : (if t233 = true then ((impl_SpanHas.f t231 t232 t225 t226).bind fun t242 => (if (false == t242) = true then ((impl_SpanWithin.f t231 t232 t219 t220).bind fun t243 => (if t243 = true then ((impl_SpanWithin.f t231 t232 t221 t222).bind fun t244 => (some t244)) else (some false))) else (some false))) else (if (false == false) = true then (some true) else (some false))) = some r := by rw [if_neg (show ¬ (false = true) by decide)] at H; exact H
                clear H
                have H := H1
                clear H1
                by_cases c149 : t233 = true
                · subst c149
                  have H1 : ((impl_SpanHas.f t231 t232 t225 t226).bind fun t242 => (if (false == t242) = true then ((impl_SpanWithin.f t231 t232 t219 t220).bind fun t243 => (if t243 = true then ((impl_SpanWithin.f t231 t232 t221 t222).bind fun t244 => (some t244)) else (some false))) else (some false))) = some r := by rw [if_pos rfl] at H; exact H
                  clear H
                  have H := H1
                  clear H1
                  replace H := Option.bind_eq_some_iff.mp H
                  obtain ⟨t242, A1500, H⟩ := H
                  replace H : (if (false == t242) = true then ((impl_SpanWithin.f t231 t232 t219 t220).bind fun t243 => (if t243 = true then ((impl_SpanWithin.f t231 t232 t221 t222).bind fun t244 => (some t244)) else (some false))) else (some false)) = some r := H
                  have A150 := Aside0.mk A1500
                  clear A1500
                  by_cases c151 : (false == t242) = true
                  · rw [if_pos c151] at H
                    have c151b0 : (false == t242) = true := c151
                    (try (have c151b1 : decide (false = t242) = true := by simpa using c151))
                    (try (have c151b2 : (false == t242) = true := by simpa using c151))
                    clear c151
                    replace H := Option.bind_eq_some_iff.mp H
                    obtain ⟨t243, A1520, H⟩ := H
                    replace H : (if t243 = true then ((impl_SpanWithin.f t231 t232 t221 t222).bind fun t244 => (some t244)) else (some false)) = some r := H
                    have A152 := Aside0.mk A1520
                    clear A1520
                    by_cases c153 : t243 = true
                    · subst c153
                      have H1 : ((impl_SpanWithin.f t231 t232 t221 t222).bind fun t244 => (some t244)) = some r := by rw [if_pos rfl] at H; exact H
                      clear H
                      have H := H1
                      clear H1
                      replace H := Option.bind_eq_some_iff.mp H
                      obtain ⟨t244, A1540, H⟩ := H
                      replace H : (some t244) = some r := H
                      have A154 := Aside0.mk A1540
                      clear A1540
                      obtain rfl := Option.some.inj H
                      have hnb155 := NB223_224.out
                      have hnc155 := NB224_223.out
                      have hnb156 := NB223_230.out
                      have hnc156 := NB230_223.out
                      have hnb157 := NB223_234.out
                      have hnc157 := NB234_223.out
                      have hcz158_0 : wc.cell? ⟨gb223, 0, none⟩ = some (.int .i64 t219) := (blk_cell BK223.out 0).trans rfl
                      have hcz158_1 : wc.cell? ⟨gb223, 1, none⟩ = some (.int .i64 t220) := (blk_cell BK223.out 1).trans rfl
                      have hfz158_0 := blk_frozen BK223.out 0
                      have hfz158_1 := blk_frozen BK223.out 1
                      go_wp2_with (first | ((with_reducible refine gate_callee (f := 28) rfl ?_); refine goesL_ (some 73) rfl rfl Try.func28 (by kernel_rfl) rfl #[.agg #[.int .i64 t219, .int .i64 t220], .int .i64 t225, .int .i64 t226] rfl (by (try simp only [List.map_toArray, List.map_cons, List.map_nil]); first | done | rfl | (simp only [List.length_drop, List.length_take]; rfl)) ?_; (with_reducible refine (impl_SpanHas.calls t219 t220 t225 t226 false _ A76.out).mono ?_); rintro e w159 ⟨rfl, hb⟩; refine ⟨_, rfl, ?_⟩; have n0_ := Aside0.mk (blk_below (g := gb223) (o := .cells #[.int .i64 t219, .int .i64 t220] 29 (0, 0)) (by (with_reducible repeat (first | refine blk_drewN ?_ _ | refine blk_drew ?_ | refine blk_alloc ?_ _)); exact BK223.out) hb); have n1_ := Aside0.mk (blk_below (g := gb224) (o := .cells #[.int .i64 t221, .int .i64 t222] 29 (0, 0)) (by (with_reducible repeat (first | refine blk_drewN ?_ _ | refine blk_drew ?_ | refine blk_alloc ?_ _)); exact BK224.out) hb); have n2_ := Aside0.mk (blk_below (g := gb230) (o := .cells #[.int .i64 t227, .int .i64 t228] 29 (0, 0)) (by (with_reducible repeat (first | refine blk_drewN ?_ _ | refine blk_drew ?_ | refine blk_alloc ?_ _)); exact BK230.out) hb); have n3_ := Aside0.mk (blk_below (g := gb234) (o := .cells #[.int .i64 t231, .int .i64 t232] 29 (0, 0)) (by (with_reducible repeat (first | refine blk_drewN ?_ _ | refine blk_drew ?_ | refine blk_alloc ?_ _)); exact BK234.out) hb); have n4_ := Aside0.mk (below_step (by repeat (first | (with_reducible first | exact HB.out | apply below_alloc | apply pw_below_drewN | apply below_drew1 | refine below_set ?_ GE223.out | refine below_set ?_ GE224.out | refine below_set ?_ GE230.out | refine below_set ?_ GE234.out) | exact HB.out)) hb); clear BK223; clear BK224; clear BK230; clear BK234; clear HB; have BK223 := n0_; have BK224 := n1_; have BK230 := n2_; have BK234 := n3_; have HB := n4_; clear n0_ n1_ n2_ n3_ n4_; (try clear hb); (try clear hb2); (try clear hk); (try clear hi); have hnb160 := NB234_224.out; have hnc160 := NB224_234.out; have hnb161 := NB234_230.out; have hnc161 := NB230_234.out; have hcz162_0 : w159.cell? ⟨gb234, 0, none⟩ = some (.int .i64 t231) := (blk_cell BK234.out 0).trans rfl; have hcz162_1 : w159.cell? ⟨gb234, 1, none⟩ = some (.int .i64 t232) := (blk_cell BK234.out 1).trans rfl; have hfz162_0 := blk_frozen BK234.out 0; have hfz162_1 := blk_frozen BK234.out 1) | (go_at_call 28; (with_reducible refine (impl_SpanHas.calls t231 t232 t225 t226 t242 _ A150.out).mono ?_); rintro e w163 ⟨rfl, hb⟩; have n0_ := Aside0.mk (blk_below (g := gb223) (o := .cells #[.int .i64 t219, .int .i64 t220] 29 (0, 0)) (by (with_reducible repeat (first | refine blk_drewN ?_ _ | refine blk_drew ?_ | refine blk_alloc ?_ _)); exact BK223.out) hb); have n1_ := Aside0.mk (blk_below (g := gb224) (o := .cells #[.int .i64 t221, .int .i64 t222] 29 (0, 0)) (by (with_reducible repeat (first | refine blk_drewN ?_ _ | refine blk_drew ?_ | refine blk_alloc ?_ _)); exact BK224.out) hb); have n2_ := Aside0.mk (blk_below (g := gb230) (o := .cells #[.int .i64 t227, .int .i64 t228] 29 (0, 0)) (by (with_reducible repeat (first | refine blk_drewN ?_ _ | refine blk_drew ?_ | refine blk_alloc ?_ _)); exact BK230.out) hb); have n3_ := Aside0.mk (blk_below (g := gb234) (o := .cells #[.int .i64 t231, .int .i64 t232] 29 (0, 0)) (by (with_reducible repeat (first | refine blk_drewN ?_ _ | refine blk_drew ?_ | refine blk_alloc ?_ _)); exact BK234.out) hb); have n4_ := Aside0.mk (below_step (by repeat (first | (with_reducible first | exact HB.out | apply below_alloc | apply pw_below_drewN | apply below_drew1 | refine below_set ?_ GE223.out | refine below_set ?_ GE224.out | refine below_set ?_ GE230.out | refine below_set ?_ GE234.out) | exact HB.out)) hb); clear BK223; clear BK224; clear BK230; clear BK234; clear HB; have BK223 := n0_; have BK224 := n1_; have BK230 := n2_; have BK234 := n3_; have HB := n4_; clear n0_ n1_ n2_ n3_ n4_; (try clear hb); (try clear hb2); (try clear hk); (try clear hi); have hcz164_0 : w163.cell? ⟨gb234, 0, none⟩ = some (.int .i64 t231) := (blk_cell BK234.out 0).trans rfl; have hcz164_1 : w163.cell? ⟨gb234, 1, none⟩ = some (.int .i64 t232) := (blk_cell BK234.out 1).trans rfl; have hfz164_0 := blk_frozen BK234.out 0; have hfz164_1 := blk_frozen BK234.out 1; have hcz165_0 : w163.cell? ⟨gb223, 0, none⟩ = some (.int .i64 t219) := (blk_cell BK223.out 0).trans rfl; have hcz165_1 : w163.cell? ⟨gb223, 1, none⟩ = some (.int .i64 t220) := (blk_cell BK223.out 1).trans rfl; have hfz165_0 := blk_frozen BK223.out 0; have hfz165_1 := blk_frozen BK223.out 1) | (go_at_call 35; (with_reducible refine (impl_SpanWithin.calls t231 t232 t219 t220 true _ A152.out).mono ?_); rintro e w166 ⟨rfl, hb⟩; have n0_ := Aside0.mk (blk_below (g := gb223) (o := .cells #[.int .i64 t219, .int .i64 t220] 29 (0, 0)) (by (with_reducible repeat (first | refine blk_drewN ?_ _ | refine blk_drew ?_ | refine blk_alloc ?_ _)); exact BK223.out) hb); have n1_ := Aside0.mk (blk_below (g := gb224) (o := .cells #[.int .i64 t221, .int .i64 t222] 29 (0, 0)) (by (with_reducible repeat (first | refine blk_drewN ?_ _ | refine blk_drew ?_ | refine blk_alloc ?_ _)); exact BK224.out) hb); have n2_ := Aside0.mk (blk_below (g := gb230) (o := .cells #[.int .i64 t227, .int .i64 t228] 29 (0, 0)) (by (with_reducible repeat (first | refine blk_drewN ?_ _ | refine blk_drew ?_ | refine blk_alloc ?_ _)); exact BK230.out) hb); have n3_ := Aside0.mk (blk_below (g := gb234) (o := .cells #[.int .i64 t231, .int .i64 t232] 29 (0, 0)) (by (with_reducible repeat (first | refine blk_drewN ?_ _ | refine blk_drew ?_ | refine blk_alloc ?_ _)); exact BK234.out) hb); have n4_ := Aside0.mk (below_step (by repeat (first | (with_reducible first | exact HB.out | apply below_alloc | apply pw_below_drewN | apply below_drew1 | refine below_set ?_ GE223.out | refine below_set ?_ GE224.out | refine below_set ?_ GE230.out | refine below_set ?_ GE234.out) | exact HB.out)) hb); clear BK223; clear BK224; clear BK230; clear BK234; clear HB; have BK223 := n0_; have BK224 := n1_; have BK230 := n2_; have BK234 := n3_; have HB := n4_; clear n0_ n1_ n2_ n3_ n4_; (try clear hb); (try clear hb2); (try clear hk); (try clear hi); have hcz167_0 : w166.cell? ⟨gb234, 0, none⟩ = some (.int .i64 t231) := (blk_cell BK234.out 0).trans rfl; have hcz167_1 : w166.cell? ⟨gb234, 1, none⟩ = some (.int .i64 t232) := (blk_cell BK234.out 1).trans rfl; have hfz167_0 := blk_frozen BK234.out 0; have hfz167_1 := blk_frozen BK234.out 1; have hnb168 := NB224_230.out; have hnc168 := NB230_224.out; have hcz169_0 : w166.cell? ⟨gb224, 0, none⟩ = some (.int .i64 t221) := (blk_cell BK224.out 0).trans rfl; have hcz169_1 : w166.cell? ⟨gb224, 1, none⟩ = some (.int .i64 t222) := (blk_cell BK224.out 1).trans rfl; have hfz169_0 := blk_frozen BK224.out 0; have hfz169_1 := blk_frozen BK224.out 1) | (go_at_call 35; (with_reducible refine (impl_SpanWithin.calls t231 t232 t221 t222 t244 _ A154.out).mono ?_); rintro e w170 ⟨rfl, hb⟩; have n0_ := Aside0.mk (blk_below (g := gb223) (o := .cells #[.int .i64 t219, .int .i64 t220] 29 (0, 0)) (by (with_reducible repeat (first | refine blk_drewN ?_ _ | refine blk_drew ?_ | refine blk_alloc ?_ _)); exact BK223.out) hb); have n1_ := Aside0.mk (blk_below (g := gb224) (o := .cells #[.int .i64 t221, .int .i64 t222] 29 (0, 0)) (by (with_reducible repeat (first | refine blk_drewN ?_ _ | refine blk_drew ?_ | refine blk_alloc ?_ _)); exact BK224.out) hb); have n2_ := Aside0.mk (blk_below (g := gb230) (o := .cells #[.int .i64 t227, .int .i64 t228] 29 (0, 0)) (by (with_reducible repeat (first | refine blk_drewN ?_ _ | refine blk_drew ?_ | refine blk_alloc ?_ _)); exact BK230.out) hb); have n3_ := Aside0.mk (blk_below (g := gb234) (o := .cells #[.int .i64 t231, .int .i64 t232] 29 (0, 0)) (by (with_reducible repeat (first | refine blk_drewN ?_ _ | refine blk_drew ?_ | refine blk_alloc ?_ _)); exact BK234.out) hb); have n4_ := Aside0.mk (below_step (by repeat (first | (with_reducible first | exact HB.out | apply below_alloc | apply pw_below_drewN | apply below_drew1 | refine below_set ?_ GE223.out | refine below_set ?_ GE224.out | refine below_set ?_ GE230.out | refine below_set ?_ GE234.out) | exact HB.out)) hb); clear BK223; clear BK224; clear BK230; clear BK234; clear HB; have BK223 := n0_; have BK224 := n1_; have BK230 := n2_; have BK234 := n3_; have HB := n4_; clear n0_ n1_ n2_ n3_ n4_; (try clear hb); (try clear hb2); (try clear hk); (try clear hi)))
                      go_ret
                      exact ⟨by first | rfl | (simp [errW_none, errW_some] <;> rfl) | (simp [*, errW_none, errW_some] <;> rfl), by repeat (first | (with_reducible first | exact HB.out | apply below_alloc | apply pw_below_drewN | apply below_drew1 | refine below_set ?_ GE223.out | refine below_set ?_ GE224.out | refine below_set ?_ GE230.out | refine below_set ?_ GE234.out) | exact HB.out)⟩
                    · exact absurd ((Option.some.inj ((if_neg c153).symm.trans H)).trans HRT.out) (by decide)
                  · rw [if_neg c151] at H
                    exact absurd ((Option.some.inj H).trans HRT.out) (by decide)
                · replace c149 := Bool.eq_false_iff.mpr c149
                  subst c149
                  have H1 : (if (false == false) = true then (some true) else (some false)) = some r := by rw [if_neg (show ¬ (false = true) by decide)] at H; exact H
                  clear H
                  have H := H1
                  clear H1
                  by_cases c192 : (false == false) = true
                  · rw [if_pos c192] at H
                    have c192b0 : (false == false) = true := c192
                    (try (have c192b1 : decide (false = false) = true := by simp))
                    (try (have c192b2 : (false == false) = true := by simp))
                    clear c192
                    obtain rfl := Option.some.inj H
                    have hnb193 := NB223_224.out
                    have hnc193 := NB224_223.out
                    have hnb194 := NB223_230.out
                    have hnc194 := NB230_223.out
                    have hnb195 := NB223_234.out
                    have hnc195 := NB234_223.out
                    have hcz196_0 : wc.cell? ⟨gb223, 0, none⟩ = some (.int .i64 t219) := (blk_cell BK223.out 0).trans rfl
                    have hcz196_1 : wc.cell? ⟨gb223, 1, none⟩ = some (.int .i64 t220) := (blk_cell BK223.out 1).trans rfl
                    have hfz196_0 := blk_frozen BK223.out 0
                    have hfz196_1 := blk_frozen BK223.out 1
                    go_wp2_with (first | ((with_reducible refine gate_callee (f := 28) rfl ?_); refine goesL_ (some 73) rfl rfl Try.func28 (by kernel_rfl) rfl #[.agg #[.int .i64 t219, .int .i64 t220], .int .i64 t225, .int .i64 t226] rfl (by (try simp only [List.map_toArray, List.map_cons, List.map_nil]); first | done | rfl | (simp only [List.length_drop, List.length_take]; rfl)) ?_; (with_reducible refine (impl_SpanHas.calls t219 t220 t225 t226 false _ A76.out).mono ?_); rintro e w197 ⟨rfl, hb⟩; refine ⟨_, rfl, ?_⟩; have n0_ := Aside0.mk (blk_below (g := gb223) (o := .cells #[.int .i64 t219, .int .i64 t220] 29 (0, 0)) (by (with_reducible repeat (first | refine blk_drewN ?_ _ | refine blk_drew ?_ | refine blk_alloc ?_ _)); exact BK223.out) hb); have n1_ := Aside0.mk (blk_below (g := gb224) (o := .cells #[.int .i64 t221, .int .i64 t222] 29 (0, 0)) (by (with_reducible repeat (first | refine blk_drewN ?_ _ | refine blk_drew ?_ | refine blk_alloc ?_ _)); exact BK224.out) hb); have n2_ := Aside0.mk (blk_below (g := gb230) (o := .cells #[.int .i64 t227, .int .i64 t228] 29 (0, 0)) (by (with_reducible repeat (first | refine blk_drewN ?_ _ | refine blk_drew ?_ | refine blk_alloc ?_ _)); exact BK230.out) hb); have n3_ := Aside0.mk (blk_below (g := gb234) (o := .cells #[.int .i64 t231, .int .i64 t232] 29 (0, 0)) (by (with_reducible repeat (first | refine blk_drewN ?_ _ | refine blk_drew ?_ | refine blk_alloc ?_ _)); exact BK234.out) hb); have n4_ := Aside0.mk (below_step (by repeat (first | (with_reducible first | exact HB.out | apply below_alloc | apply pw_below_drewN | apply below_drew1 | refine below_set ?_ GE223.out | refine below_set ?_ GE224.out | refine below_set ?_ GE230.out | refine below_set ?_ GE234.out) | exact HB.out)) hb); clear BK223; clear BK224; clear BK230; clear BK234; clear HB; have BK223 := n0_; have BK224 := n1_; have BK230 := n2_; have BK234 := n3_; have HB := n4_; clear n0_ n1_ n2_ n3_ n4_; (try clear hb); (try clear hb2); (try clear hk); (try clear hi)))
                    go_ret
                    exact ⟨by first | rfl | (simp [errW_none, errW_some] <;> rfl) | (simp [*, errW_none, errW_some] <;> rfl), by repeat (first | (with_reducible first | exact HB.out | apply below_alloc | apply pw_below_drewN | apply below_drew1 | refine below_set ?_ GE223.out | refine below_set ?_ GE224.out | refine below_set ?_ GE230.out | refine below_set ?_ GE234.out) | exact HB.out)⟩
                  · exact absurd (by have e0 := EQ1a.out; have e1 := EQ1b.out; have e2 := EQ1c.out; (try subst e0); (try subst e1); (try subst e2); first | (simp; done) | simp_all) c192

/-- THE ONE PURE STATEMENT of laws_FnSpanMeet: yours. -/
def laws_FnSpanMeet.Pure : Prop := laws_FnSpanMeet.Same ∧ ∀ (l0 : List Int) (l1 : List Int), l0.length ≤ maxLen → l0.length * 1 ≤ 140737488351232 → (∀ x ∈ l0, (Lit.int .u8 x).wf = true) → l1.length ≤ maxLen → l1.length * 1 ≤ 140737488351232 → (∀ x ∈ l1, (Lit.int .u8 x).wf = true) → ∃ k, laws_FnSpanMeet.f k l0 l1 = some true
theorem laws_FnSpanMeet.walk (P : laws_FnSpanMeet.Pure) (a0 : Option Addr) (len0 cap0 : Nat) (z0 : List Int) (a1 : Option Addr) (len1 cap1 : Nat) (z1 : List Int) (w : World) (w0 : (a0 = none ∧ len0 = 0 ∧ cap0 = 0 ∧ z0 = []) ∨ ∃ x, a0 = some x ∧ len0 ≤ cap0 ∧ cap0 ≤ maxLen ∧ z0.length = cap0 ∧ (∀ i, i < z0.length → w.cell? (x.add i) = some (.int .u8 (z0.getD i 0))) ∧ ∀ n ∈ z0, (Lit.int .u8 n).wf = true) (y0 : len0 * 1 ≤ 140737488351232) (w1 : (a1 = none ∧ len1 = 0 ∧ cap1 = 0 ∧ z1 = []) ∨ ∃ x, a1 = some x ∧ len1 ≤ cap1 ∧ cap1 ≤ maxLen ∧ z1.length = cap1 ∧ (∀ i, i < z1.length → w.cell? (x.add i) = some (.int .u8 (z1.getD i 0))) ∧ ∀ n ∈ z1, (Lit.int .u8 n).wf = true) (y1 : len1 * 1 ≤ 140737488351232) :
    Calls Try.prog 8 #[.slice a0 len0 cap0, .slice a1 len1 cap1] w fun e w' => e = .returned (.bool true) ∧ Below w.heap.size w w' := by
  obtain ⟨l0, rfl, hr0, hm0, hw0, hc0⟩ := ReadsInt.ofRowC w0
  obtain ⟨l1, rfl, hr1, hm1, hw1, hc1⟩ := ReadsInt.ofRowC w1
  obtain ⟨k, h⟩ := P.2 l0 l1 hm0 y0 hw0 hm1 y1 hw1
  refine (laws_FnSpanMeet.calls k _ _ l0 _ _ l1 true w (Kd.C_of_reads (d := (0 : Int)) (h1 := fun _ => rfl) hr0) hc0 (Kd.C_of_reads (d := (0 : Int)) (h1 := fun _ => rfl) hr1) hc1 P.1 rfl h).mono ?_
  rintro e w' ⟨rfl, hd⟩
  exact ⟨rfl, hd⟩

end Go.Proofs.Ytbdlfopkdplgcaa.PFnSpanMeet
