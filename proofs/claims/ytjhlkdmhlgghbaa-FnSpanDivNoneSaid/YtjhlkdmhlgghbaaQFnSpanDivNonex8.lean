/- Contracts of functions that the law FnSpanDivNone reaches, over the seat's program: each says what one call returns. The lines are the kit's print (print.sh), laid anew as texts of this session's own, since one printed branch does not build. -/
import Derived.Test.YtjhlkdmhlgghbaaQFnSpanDivNonex7
namespace Go.Proofs.Ytjhlkdmhlgghbaa.PFnSpanDivNone
open Go.RowKit Go.Proofs.YtjhlkdmhlgghbaaW.PrintWords Go.Proofs.YtjhlkdmhlgghbaaW.PrintLast Go.Proofs.YtjhlkdmhlgghbaaW.PrintMore
attribute [local go_sem] max2_int min2_int max_two min_two max_three min_three max_four min_four   -- for this text's walks alone
set_option linter.unusedVariables false
set_option linter.unusedSimpArgs false

attribute [local go_sem high] eqA30

set_option maxHeartbeats 8000000 in
set_option maxRecDepth 100000 in
theorem laws_FnSpanDivNone.calls_false (k : Nat) (A0 : Option Addr) (c0 : Nat) (l0 : List Int) (r : Bool) (w : World) (hr0 : Kd.C (Kd.int .u8) w A0 l0.length l0) (hc0 : l0.length ≤ c0) (hE : laws_FnSpanDivNone.Same) (hsel : laws_FnSpanDivNone.Sel false l0) (hrt : r = true) (h : laws_FnSpanDivNone.f k l0 = some r) :
    Calls Try.prog 10 #[.slice A0 l0.length c0] w fun e w' => e = .returned (.bool r) ∧ Below w.heap.size w w' := by
  have HRT := Aside0.mk hrt
  clear hrt
  have HSEL := Aside0.mk hsel
  clear hsel
  have HE_SpanDiv := Aside0.mk hE
  clear hE
  have hu30 := Try.underlying30
  have HR0 := Aside0.mk hr0
  have HC0 := Aside0.mk hc0
  clear hr0 hc0
  have HB := Aside0.mk (Below.refl w.heap.size w)
  have H : (if (l0.length : Int) > 1048576 then (some true) else ((spec_DrawSpanDiv.f k l0).bind fun bt240 => ((spec_SpanDiv.f k bt240.1 bt240.2.1 bt240.2.2.1 bt240.2.2.2).bind fun bt246 => ((impl_SpanDiv.f k bt240.1 bt240.2.1 bt240.2.2.1 bt240.2.2.2).bind fun bt250 => (if (bt250.2.2 != bt246.2.2) = true then (laws_FnSpanDivNone.j0 k bt250.2.2 true bt240.1 bt240.2.1 bt240.2.2.1 bt240.2.2.2 bt250.1 bt250.2.1) else (laws_FnSpanDivNone.j0 k bt250.2.2 (!(bt250.1 == bt246.1) || (!(bt250.2.1 == bt246.2.1))) bt240.1 bt240.2.1 bt240.2.2.1 bt240.2.2.2 bt250.1 bt250.2.1)))))) = some r := h
  clear h
  by_cases c2 : (l0.length : Int) > 1048576
  case pos =>
    rw [if_pos c2] at H
    have c2b0 : decide (1048576 < (l0.length : Int)) = true := decide_eq_true c2
    have c2b1 : decide (1048576 < l0.length) = true := decide_eq_true (by omega)
    clear c2
    obtain rfl := Option.some.inj H
    go_enter Try.func10, Try.ntmps10
    go_wp2
    go_ret
    exact ⟨by first | rfl | (simp [errW_none, errW_some] <;> rfl) | (simp [*, errW_none, errW_some] <;> rfl), by repeat (first | (with_reducible first | exact HB.out | apply below_alloc | apply pw_below_drewN | apply below_drew1) | exact HB.out)⟩
  rw [if_neg c2] at H
  have c2b0 : decide (1048576 < (l0.length : Int)) = false := decide_eq_false c2
  have c2b1 : decide (1048576 < l0.length) = false := decide_eq_false (by omega)
  clear c2
  replace H := Option.bind_eq_some_iff.mp H
  obtain ⟨⟨t240, t241, t242, t243⟩, A30, H⟩ := H
  replace H : ((spec_SpanDiv.f k t240 t241 t242 t243).bind fun bt246 => ((impl_SpanDiv.f k t240 t241 t242 t243).bind fun bt250 => (if (bt250.2.2 != bt246.2.2) = true then (laws_FnSpanDivNone.j0 k bt250.2.2 true t240 t241 t242 t243 bt250.1 bt250.2.1) else (laws_FnSpanDivNone.j0 k bt250.2.2 (!(bt250.1 == bt246.1) || (!(bt250.2.1 == bt246.2.1))) t240 t241 t242 t243 bt250.1 bt250.2.1)))) = some r := H
  have A3 := Aside0.mk A30
  clear A30
  replace H := Option.bind_eq_some_iff.mp H
  obtain ⟨⟨t246, t247, t248⟩, A40, H⟩ := H
  replace H : ((impl_SpanDiv.f k t240 t241 t242 t243).bind fun bt250 => (if (bt250.2.2 != t248) = true then (laws_FnSpanDivNone.j0 k bt250.2.2 true t240 t241 t242 t243 bt250.1 bt250.2.1) else (laws_FnSpanDivNone.j0 k bt250.2.2 (!(bt250.1 == t246) || (!(bt250.2.1 == t247))) t240 t241 t242 t243 bt250.1 bt250.2.1))) = some r := H
  have A4 := Aside0.mk A40
  clear A40
  replace H := Option.bind_eq_some_iff.mp H
  obtain ⟨⟨t250, t251, t252⟩, A50, H⟩ := H
  replace H : (if (t252 != t248) = true then (laws_FnSpanDivNone.j0 k t252 true t240 t241 t242 t243 t250 t251) else (laws_FnSpanDivNone.j0 k t252 (!(t250 == t246) || (!(t251 == t247))) t240 t241 t242 t243 t250 t251)) = some r := H
  have A5 := Aside0.mk A50
  have EQS : Aside0 (t252 = false) := ⟨HSEL.out.1 _ _ _ _ _ _ _ A3.out A50⟩
  have EQ1 := HE_SpanDiv.out _ _ _ _ _ _ _ A4.out A50
  have EQ1a : Aside0 (t250 = t246) := ⟨congrArg (fun p => p.1) EQ1⟩
  have EQ1b : Aside0 (t251 = t247) := ⟨congrArg (fun p => p.2.1) EQ1⟩
  have EQ1c : Aside0 (t252 = t248) := ⟨congrArg (fun p => p.2.2) EQ1⟩
  clear EQ1
  clear A50
  have HC6 := Aside0.mk H
  clear H
  go_enter Try.func10, Try.ntmps10
  go_upto_region 6 with (first | ((with_reducible refine gate_callee (f := 25) rfl ?_); refine goesL_ (some 17) rfl rfl Try.func25 (by kernel_rfl) rfl #[.slice A0 l0.length c0] rfl (by (try simp only [List.map_toArray, List.map_cons, List.map_nil]); first | done | rfl | (simp only [List.length_drop, List.length_take]; rfl)) ?_; (with_reducible refine (spec_DrawSpanDiv.calls k _ _ l0 t240 t241 t242 t243 _ ?side1 ?side2 A3.out).mono ?_); (case side1 => repeat (first | exact HR0.out | (with_reducible refine Kd.C_alloc ?_ _) | (with_reducible refine Kd.C_drewN ?_ _) | (with_reducible refine Kd.C_drew ?_))); (case side2 => exact HC0.out); rintro e w7 ⟨rfl, hb⟩; refine ⟨_, rfl, ?_⟩; have n0_ := Aside0.mk (below_step (by repeat (first | (with_reducible first | exact HB.out | apply below_alloc | apply pw_below_drewN | apply below_drew1) | exact HB.out)) hb); clear HB; have HB := n0_; clear n0_; (try clear hb); (try clear hb2); (try clear hk); (try clear hi)) | ((with_reducible refine gate_dst (N := 3) rfl ?_); refine box_event ?hg (N := 3) ?hd (cs := #[.int .i64 0, .int .i64 0]) (t := 30) ?hr ?_; (case hd => rfl); (case hg => rfl); (case hr => first | (go_simp; done) | (go_simp; rfl)); intro gb244 hg w8 hbox hb; have n0_ := Aside0.mk (below_step (by repeat (first | (with_reducible first | exact HB.out | apply below_alloc | apply pw_below_drewN | apply below_drew1) | exact HB.out)) hb); have n1_ := Aside0.mk (hbox); have n2_ := Aside0.mk ((by rw [hg]; exact (below_size (by repeat (first | (with_reducible first | exact HB.out | apply below_alloc | apply pw_below_drewN | apply below_drew1) | exact HB.out))) : w.heap.size ≤ gb244)); have n3_ := Aside0.mk ((by rw [hg]; exact (below_size (by repeat (first | (with_reducible first | exact HB.out | apply below_alloc | apply pw_below_drewN | apply below_drew1) | exact HB.out))) : w.heap.size ≤ gb244)); clear HB; have HB := n0_; have BK244 := n1_; have GW244 := n2_; have GE244 := n3_; clear n0_ n1_ n2_ n3_; clear hb hbox hg) | ((with_reducible refine gate_dst (N := 4) rfl ?_); refine box_event ?hg (N := 4) ?hd (cs := #[.int .i64 0, .int .i64 0]) (t := 30) ?hr ?_; (case hd => rfl); (case hg => rfl); (case hr => first | (go_simp; done) | (go_simp; rfl)); intro gb245 hg w9 hbox hb; have n0_ := Aside0.mk (blk_below (g := gb244) (o := .cells #[.int .i64 0, .int .i64 0] 30 (0, 0)) (by (with_reducible repeat (first | refine blk_drewN ?_ _ | refine blk_drew ?_ | refine blk_alloc ?_ _)); exact BK244.out) hb); have n1_ := Aside0.mk (below_step (by repeat (first | (with_reducible first | exact HB.out | apply below_alloc | apply pw_below_drewN | apply below_drew1 | refine below_set ?_ GE244.out) | exact HB.out)) hb); have n2_ := Aside0.mk (hbox); have n3_ := Aside0.mk ((by rw [hg]; exact (below_size (by repeat (first | (with_reducible first | exact HB.out | apply below_alloc | apply pw_below_drewN | apply below_drew1 | refine below_set ?_ GE244.out) | exact HB.out))) : w.heap.size ≤ gb245)); have n4_ := Aside0.mk ((by rw [hg]; exact (below_size (by repeat (first | (with_reducible first | exact HB.out | apply below_alloc | apply pw_below_drewN | apply below_drew1 | refine below_set ?_ GE244.out) | exact HB.out))) : w.heap.size ≤ gb245)); have n5_ := Aside0.mk ((by rw [hg]; exact Nat.ne_of_lt (blk_lt (g := gb244) (o := .cells #[.int .i64 0, .int .i64 0] 30 (0, 0)) (by (with_reducible repeat (first | refine blk_drewN ?_ _ | refine blk_drew ?_ | refine blk_alloc ?_ _)); exact BK244.out)) : gb244 ≠ gb245)); have n6_ := Aside0.mk ((by rw [hg]; exact Nat.ne_of_gt (blk_lt (g := gb244) (o := .cells #[.int .i64 0, .int .i64 0] 30 (0, 0)) (by (with_reducible repeat (first | refine blk_drewN ?_ _ | refine blk_drew ?_ | refine blk_alloc ?_ _)); exact BK244.out)) : gb245 ≠ gb244)); clear BK244; clear HB; have BK244 := n0_; have HB := n1_; have BK245 := n2_; have GW245 := n3_; have GE245 := n4_; have NB244_245 := n5_; have NB245_244 := n6_; clear n0_ n1_ n2_ n3_ n4_ n5_ n6_; clear hb hbox hg; have hnb10 := NB244_245.out; have hnc10 := NB245_244.out; have hcz11_0 : w9.cell? ⟨gb244, 0, none⟩ = some (.int .i64 0) := (blk_cell BK244.out 0).trans rfl; have hcz11_1 : w9.cell? ⟨gb244, 1, none⟩ = some (.int .i64 0) := (blk_cell BK244.out 1).trans rfl; have hfz11_0 := blk_frozen BK244.out 0; have hfz11_1 := blk_frozen BK244.out 1; have hcz12_0 : w9.cell? ⟨gb245, 0, none⟩ = some (.int .i64 0) := (blk_cell BK245.out 0).trans rfl; have hcz12_1 : w9.cell? ⟨gb245, 1, none⟩ = some (.int .i64 0) := (blk_cell BK245.out 1).trans rfl; have hfz12_0 := blk_frozen BK245.out 0; have hfz12_1 := blk_frozen BK245.out 1) | ((with_reducible refine gate_callee (f := 26) rfl ?_); refine goesL_ (some 23) rfl rfl Try.func26 (by kernel_rfl) rfl #[.agg #[.int .i64 t240, .int .i64 t241], .agg #[.int .i64 t242, .int .i64 t243]] rfl (by (try simp only [List.map_toArray, List.map_cons, List.map_nil]); first | done | rfl | (simp only [List.length_drop, List.length_take]; rfl)) ?_; (with_reducible refine (spec_SpanDiv.calls k t240 t241 t242 t243 t246 t247 t248 _ A4.out).mono ?_); rintro e w13 ⟨rfl, hb⟩; refine ⟨_, rfl, ?_⟩; have n0_ := Aside0.mk (blk_below (g := gb244) (o := .cells #[.int .i64 t240, .int .i64 t241] 30 (0, 0)) (by (with_reducible repeat (first | refine blk_drewN ?_ _ | refine blk_drew ?_ | refine blk_alloc ?_ _)); refine blk_far ?_ NB244_245.out _; (with_reducible repeat (first | refine blk_drewN ?_ _ | refine blk_drew ?_ | refine blk_alloc ?_ _)); refine blk_far ?_ NB244_245.out _; (with_reducible repeat (first | refine blk_drewN ?_ _ | refine blk_drew ?_ | refine blk_alloc ?_ _)); refine blk_put (cs := #[.int .i64 t240, .int .i64 0]) ?_ 1 _ rfl; (with_reducible repeat (first | refine blk_drewN ?_ _ | refine blk_drew ?_ | refine blk_alloc ?_ _)); refine blk_put (cs := #[.int .i64 0, .int .i64 0]) ?_ 0 _ rfl; (with_reducible repeat (first | refine blk_drewN ?_ _ | refine blk_drew ?_ | refine blk_alloc ?_ _)); exact BK244.out) hb); have n1_ := Aside0.mk (blk_below (g := gb245) (o := .cells #[.int .i64 t242, .int .i64 t243] 30 (0, 0)) (by (with_reducible repeat (first | refine blk_drewN ?_ _ | refine blk_drew ?_ | refine blk_alloc ?_ _)); refine blk_put (cs := #[.int .i64 t242, .int .i64 0]) ?_ 1 _ rfl; (with_reducible repeat (first | refine blk_drewN ?_ _ | refine blk_drew ?_ | refine blk_alloc ?_ _)); refine blk_put (cs := #[.int .i64 0, .int .i64 0]) ?_ 0 _ rfl; (with_reducible repeat (first | refine blk_drewN ?_ _ | refine blk_drew ?_ | refine blk_alloc ?_ _)); refine blk_far ?_ NB245_244.out _; (with_reducible repeat (first | refine blk_drewN ?_ _ | refine blk_drew ?_ | refine blk_alloc ?_ _)); refine blk_far ?_ NB245_244.out _; (with_reducible repeat (first | refine blk_drewN ?_ _ | refine blk_drew ?_ | refine blk_alloc ?_ _)); exact BK245.out) hb); have n2_ := Aside0.mk (below_step (by repeat (first | (with_reducible first | exact HB.out | apply below_alloc | apply pw_below_drewN | apply below_drew1 | refine below_set ?_ GE244.out | refine below_set ?_ GE245.out) | exact HB.out)) hb); clear BK244; clear BK245; clear HB; have BK244 := n0_; have BK245 := n1_; have HB := n2_; clear n0_ n1_ n2_; (try clear hb); (try clear hb2); (try clear hk); (try clear hi)) | ((with_reducible refine gate_dst (N := 5) rfl ?_); refine box_event ?hg (N := 5) ?hd (cs := #[.int .i64 0, .int .i64 0]) (t := 30) ?hr ?_; (case hd => rfl); (case hg => rfl); (case hr => first | (go_simp; done) | (go_simp; rfl)); intro gb249 hg w14 hbox hb; have n0_ := Aside0.mk (blk_below (g := gb244) (o := .cells #[.int .i64 t240, .int .i64 t241] 30 (0, 0)) (by (with_reducible repeat (first | refine blk_drewN ?_ _ | refine blk_drew ?_ | refine blk_alloc ?_ _)); exact BK244.out) hb); have n1_ := Aside0.mk (blk_below (g := gb245) (o := .cells #[.int .i64 t242, .int .i64 t243] 30 (0, 0)) (by (with_reducible repeat (first | refine blk_drewN ?_ _ | refine blk_drew ?_ | refine blk_alloc ?_ _)); exact BK245.out) hb); have n2_ := Aside0.mk (below_step (by repeat (first | (with_reducible first | exact HB.out | apply below_alloc | apply pw_below_drewN | apply below_drew1 | refine below_set ?_ GE244.out | refine below_set ?_ GE245.out) | exact HB.out)) hb); have n3_ := Aside0.mk (hbox); have n4_ := Aside0.mk ((by rw [hg]; exact (below_size (by repeat (first | (with_reducible first | exact HB.out | apply below_alloc | apply pw_below_drewN | apply below_drew1 | refine below_set ?_ GE244.out | refine below_set ?_ GE245.out) | exact HB.out))) : w.heap.size ≤ gb249)); have n5_ := Aside0.mk ((by rw [hg]; exact (below_size (by repeat (first | (with_reducible first | exact HB.out | apply below_alloc | apply pw_below_drewN | apply below_drew1 | refine below_set ?_ GE244.out | refine below_set ?_ GE245.out) | exact HB.out))) : w.heap.size ≤ gb249)); have n6_ := Aside0.mk ((by rw [hg]; exact Nat.ne_of_lt (blk_lt (g := gb244) (o := .cells #[.int .i64 t240, .int .i64 t241] 30 (0, 0)) (by (with_reducible repeat (first | refine blk_drewN ?_ _ | refine blk_drew ?_ | refine blk_alloc ?_ _)); exact BK244.out)) : gb244 ≠ gb249)); have n7_ := Aside0.mk ((by rw [hg]; exact Nat.ne_of_gt (blk_lt (g := gb244) (o := .cells #[.int .i64 t240, .int .i64 t241] 30 (0, 0)) (by (with_reducible repeat (first | refine blk_drewN ?_ _ | refine blk_drew ?_ | refine blk_alloc ?_ _)); exact BK244.out)) : gb249 ≠ gb244)); have n8_ := Aside0.mk ((by rw [hg]; exact Nat.ne_of_lt (blk_lt (g := gb245) (o := .cells #[.int .i64 t242, .int .i64 t243] 30 (0, 0)) (by (with_reducible repeat (first | refine blk_drewN ?_ _ | refine blk_drew ?_ | refine blk_alloc ?_ _)); exact BK245.out)) : gb245 ≠ gb249)); have n9_ := Aside0.mk ((by rw [hg]; exact Nat.ne_of_gt (blk_lt (g := gb245) (o := .cells #[.int .i64 t242, .int .i64 t243] 30 (0, 0)) (by (with_reducible repeat (first | refine blk_drewN ?_ _ | refine blk_drew ?_ | refine blk_alloc ?_ _)); exact BK245.out)) : gb249 ≠ gb245)); clear BK244; clear BK245; clear HB; have BK244 := n0_; have BK245 := n1_; have HB := n2_; have BK249 := n3_; have GW249 := n4_; have GE249 := n5_; have NB244_249 := n6_; have NB249_244 := n7_; have NB245_249 := n8_; have NB249_245 := n9_; clear n0_ n1_ n2_ n3_ n4_ n5_ n6_ n7_ n8_ n9_; clear hb hbox hg; have hnb15 := NB249_244.out; have hnc15 := NB244_249.out; have hnb16 := NB249_245.out; have hnc16 := NB245_249.out; have hcz17_0 : w14.cell? ⟨gb249, 0, none⟩ = some (.int .i64 0) := (blk_cell BK249.out 0).trans rfl; have hcz17_1 : w14.cell? ⟨gb249, 1, none⟩ = some (.int .i64 0) := (blk_cell BK249.out 1).trans rfl; have hfz17_0 := blk_frozen BK249.out 0; have hfz17_1 := blk_frozen BK249.out 1; have hcz18_0 : w14.cell? ⟨gb244, 0, none⟩ = some (.int .i64 t240) := (blk_cell BK244.out 0).trans rfl; have hcz18_1 : w14.cell? ⟨gb244, 1, none⟩ = some (.int .i64 t241) := (blk_cell BK244.out 1).trans rfl; have hfz18_0 := blk_frozen BK244.out 0; have hfz18_1 := blk_frozen BK244.out 1; have hcz19_0 : w14.cell? ⟨gb245, 0, none⟩ = some (.int .i64 t242) := (blk_cell BK245.out 0).trans rfl; have hcz19_1 : w14.cell? ⟨gb245, 1, none⟩ = some (.int .i64 t243) := (blk_cell BK245.out 1).trans rfl; have hfz19_0 := blk_frozen BK245.out 0; have hfz19_1 := blk_frozen BK245.out 1) | ((with_reducible refine gate_callee (f := 27) rfl ?_); refine goesL_ (some 29) rfl rfl Try.func27 (by kernel_rfl) rfl #[.agg #[.int .i64 t240, .int .i64 t241], .agg #[.int .i64 t242, .int .i64 t243]] rfl (by (try simp only [List.map_toArray, List.map_cons, List.map_nil]); first | done | rfl | (simp only [List.length_drop, List.length_take]; rfl)) ?_; (with_reducible refine (impl_SpanDiv.calls k t240 t241 t242 t243 t250 t251 t252 _ A5.out).mono ?_); rintro e w20 ⟨rfl, hb⟩; refine ⟨_, rfl, ?_⟩; have n0_ := Aside0.mk (blk_below (g := gb244) (o := .cells #[.int .i64 t240, .int .i64 t241] 30 (0, 0)) (by (with_reducible repeat (first | refine blk_drewN ?_ _ | refine blk_drew ?_ | refine blk_alloc ?_ _)); refine blk_far ?_ NB244_249.out _; (with_reducible repeat (first | refine blk_drewN ?_ _ | refine blk_drew ?_ | refine blk_alloc ?_ _)); refine blk_far ?_ NB244_249.out _; (with_reducible repeat (first | refine blk_drewN ?_ _ | refine blk_drew ?_ | refine blk_alloc ?_ _)); exact BK244.out) hb); have n1_ := Aside0.mk (blk_below (g := gb245) (o := .cells #[.int .i64 t242, .int .i64 t243] 30 (0, 0)) (by (with_reducible repeat (first | refine blk_drewN ?_ _ | refine blk_drew ?_ | refine blk_alloc ?_ _)); refine blk_far ?_ NB245_249.out _; (with_reducible repeat (first | refine blk_drewN ?_ _ | refine blk_drew ?_ | refine blk_alloc ?_ _)); refine blk_far ?_ NB245_249.out _; (with_reducible repeat (first | refine blk_drewN ?_ _ | refine blk_drew ?_ | refine blk_alloc ?_ _)); exact BK245.out) hb); have n2_ := Aside0.mk (blk_below (g := gb249) (o := .cells #[.int .i64 t246, .int .i64 t247] 30 (0, 0)) (by (with_reducible repeat (first | refine blk_drewN ?_ _ | refine blk_drew ?_ | refine blk_alloc ?_ _)); refine blk_put (cs := #[.int .i64 t246, .int .i64 0]) ?_ 1 _ rfl; (with_reducible repeat (first | refine blk_drewN ?_ _ | refine blk_drew ?_ | refine blk_alloc ?_ _)); refine blk_put (cs := #[.int .i64 0, .int .i64 0]) ?_ 0 _ rfl; (with_reducible repeat (first | refine blk_drewN ?_ _ | refine blk_drew ?_ | refine blk_alloc ?_ _)); exact BK249.out) hb); have n3_ := Aside0.mk (below_step (by repeat (first | (with_reducible first | exact HB.out | apply below_alloc | apply pw_below_drewN | apply below_drew1 | refine below_set ?_ GE244.out | refine below_set ?_ GE245.out | refine below_set ?_ GE249.out) | exact HB.out)) hb); clear BK244; clear BK245; clear BK249; clear HB; have BK244 := n0_; have BK245 := n1_; have BK249 := n2_; have HB := n3_; clear n0_ n1_ n2_ n3_; (try clear hb); (try clear hb2); (try clear hk); (try clear hi)) | ((with_reducible refine gate_dst (N := 7) rfl ?_); refine box_event ?hg (N := 7) ?hd (cs := #[.int .i64 0, .int .i64 0]) (t := 30) ?hr ?_; (case hd => rfl); (case hg => rfl); (case hr => first | (go_simp; done) | (go_simp; rfl)); intro gb253 hg w21 hbox hb; have n0_ := Aside0.mk (blk_below (g := gb244) (o := .cells #[.int .i64 t240, .int .i64 t241] 30 (0, 0)) (by (with_reducible repeat (first | refine blk_drewN ?_ _ | refine blk_drew ?_ | refine blk_alloc ?_ _)); exact BK244.out) hb); have n1_ := Aside0.mk (blk_below (g := gb245) (o := .cells #[.int .i64 t242, .int .i64 t243] 30 (0, 0)) (by (with_reducible repeat (first | refine blk_drewN ?_ _ | refine blk_drew ?_ | refine blk_alloc ?_ _)); exact BK245.out) hb); have n2_ := Aside0.mk (blk_below (g := gb249) (o := .cells #[.int .i64 t246, .int .i64 t247] 30 (0, 0)) (by (with_reducible repeat (first | refine blk_drewN ?_ _ | refine blk_drew ?_ | refine blk_alloc ?_ _)); exact BK249.out) hb); have n3_ := Aside0.mk (below_step (by repeat (first | (with_reducible first | exact HB.out | apply below_alloc | apply pw_below_drewN | apply below_drew1 | refine below_set ?_ GE244.out | refine below_set ?_ GE245.out | refine below_set ?_ GE249.out) | exact HB.out)) hb); have n4_ := Aside0.mk (hbox); have n5_ := Aside0.mk ((by rw [hg]; exact (below_size (by repeat (first | (with_reducible first | exact HB.out | apply below_alloc | apply pw_below_drewN | apply below_drew1 | refine below_set ?_ GE244.out | refine below_set ?_ GE245.out | refine below_set ?_ GE249.out) | exact HB.out))) : w.heap.size ≤ gb253)); have n6_ := Aside0.mk ((by rw [hg]; exact (below_size (by repeat (first | (with_reducible first | exact HB.out | apply below_alloc | apply pw_below_drewN | apply below_drew1 | refine below_set ?_ GE244.out | refine below_set ?_ GE245.out | refine below_set ?_ GE249.out) | exact HB.out))) : w.heap.size ≤ gb253)); have n7_ := Aside0.mk ((by rw [hg]; exact Nat.ne_of_lt (blk_lt (g := gb244) (o := .cells #[.int .i64 t240, .int .i64 t241] 30 (0, 0)) (by (with_reducible repeat (first | refine blk_drewN ?_ _ | refine blk_drew ?_ | refine blk_alloc ?_ _)); exact BK244.out)) : gb244 ≠ gb253)); have n8_ := Aside0.mk ((by rw [hg]; exact Nat.ne_of_gt (blk_lt (g := gb244) (o := .cells #[.int .i64 t240, .int .i64 t241] 30 (0, 0)) (by (with_reducible repeat (first | refine blk_drewN ?_ _ | refine blk_drew ?_ | refine blk_alloc ?_ _)); exact BK244.out)) : gb253 ≠ gb244)); have n9_ := Aside0.mk ((by rw [hg]; exact Nat.ne_of_lt (blk_lt (g := gb245) (o := .cells #[.int .i64 t242, .int .i64 t243] 30 (0, 0)) (by (with_reducible repeat (first | refine blk_drewN ?_ _ | refine blk_drew ?_ | refine blk_alloc ?_ _)); exact BK245.out)) : gb245 ≠ gb253)); have n10_ := Aside0.mk ((by rw [hg]; exact Nat.ne_of_gt (blk_lt (g := gb245) (o := .cells #[.int .i64 t242, .int .i64 t243] 30 (0, 0)) (by (with_reducible repeat (first | refine blk_drewN ?_ _ | refine blk_drew ?_ | refine blk_alloc ?_ _)); exact BK245.out)) : gb253 ≠ gb245)); have n11_ := Aside0.mk ((by rw [hg]; exact Nat.ne_of_lt (blk_lt (g := gb249) (o := .cells #[.int .i64 t246, .int .i64 t247] 30 (0, 0)) (by (with_reducible repeat (first | refine blk_drewN ?_ _ | refine blk_drew ?_ | refine blk_alloc ?_ _)); exact BK249.out)) : gb249 ≠ gb253)); have n12_ := Aside0.mk ((by rw [hg]; exact Nat.ne_of_gt (blk_lt (g := gb249) (o := .cells #[.int .i64 t246, .int .i64 t247] 30 (0, 0)) (by (with_reducible repeat (first | refine blk_drewN ?_ _ | refine blk_drew ?_ | refine blk_alloc ?_ _)); exact BK249.out)) : gb253 ≠ gb249)); clear BK244; clear BK245; clear BK249; clear HB; have BK244 := n0_; have BK245 := n1_; have BK249 := n2_; have HB := n3_; have BK253 := n4_; have GW253 := n5_; have GE253 := n6_; have NB244_253 := n7_; have NB253_244 := n8_; have NB245_253 := n9_; have NB253_245 := n10_; have NB249_253 := n11_; have NB253_249 := n12_; clear n0_ n1_ n2_ n3_ n4_ n5_ n6_ n7_ n8_ n9_ n10_ n11_ n12_; clear hb hbox hg; have hnb22 := NB253_244.out; have hnc22 := NB244_253.out; have hnb23 := NB253_245.out; have hnc23 := NB245_253.out; have hnb24 := NB253_249.out; have hnc24 := NB249_253.out; have hcz25_0 : w21.cell? ⟨gb253, 0, none⟩ = some (.int .i64 0) := (blk_cell BK253.out 0).trans rfl; have hcz25_1 : w21.cell? ⟨gb253, 1, none⟩ = some (.int .i64 0) := (blk_cell BK253.out 1).trans rfl; have hfz25_0 := blk_frozen BK253.out 0; have hfz25_1 := blk_frozen BK253.out 1))
  (try simp only [Act.put, List.setIfInBounds_toArray, List.set_cons_zero, List.set_cons_succ])
  go_cut [39] (fun v39 wc => ∃ (kq : Nat) (x39_5 : Bool), v39 = .bool x39_5 ∧ Aside0 (laws_FnSpanDivNone.j0 kq t252 x39_5 t240 t241 t242 t243 t250 t251 = some r) ∧ Aside0 (kq ≤ k) ∧ Aside0 (wc.heap[gb244]? = some (.cells #[.int .i64 t240, .int .i64 t241] 30 (0, 0))) ∧ Aside0 (wc.heap[gb245]? = some (.cells #[.int .i64 t242, .int .i64 t243] 30 (0, 0))) ∧ Aside0 (wc.heap[gb249]? = some (.cells #[.int .i64 t246, .int .i64 t247] 30 (0, 0))) ∧ Aside0 (wc.heap[gb253]? = some (.cells #[.int .i64 t250, .int .i64 t251] 30 (0, 0))) ∧ Aside0 (Below w.heap.size w wc))
  case first =>
    have H := HC6.out
    clear HC6
    by_cases c26 : (t252 != t248) = true
    case pos => exact absurd c26 (by have e0 := EQ1a.out; have e1 := EQ1b.out; have e2 := EQ1c.out; have e3 := EQS.out; (try subst e0); (try subst e1); (try subst e2); (try subst e3); first | (simp; done) | simp_all)
    rw [if_neg c26] at H
    have c26b0 : (t252 != t248) = false := by simpa using c26
    (try (have c26b1 : decide (t252 = t248) = true := by simpa using c26))
    (try (have c26b2 : (t252 == t248) = true := by simpa using c26))
    clear c26
    (first | rw [c26b0] | (simp only [i64_w, i32_w]; rw [c26b0]) | skip)
    have H' := Aside0.mk H
    clear H
    have hnb27 := NB253_244.out
    have hnc27 := NB244_253.out
    have hnb28 := NB253_245.out
    have hnc28 := NB245_253.out
    have hnb29 := NB253_249.out
    have hnc29 := NB249_253.out
    have hcz30_0 : w21.cell? ⟨gb253, 0, none⟩ = some (.int .i64 0) := (blk_cell BK253.out 0).trans rfl
    have hcz30_1 : w21.cell? ⟨gb253, 1, none⟩ = some (.int .i64 0) := (blk_cell BK253.out 1).trans rfl
    have hfz30_0 := blk_frozen BK253.out 0
    have hfz30_1 := blk_frozen BK253.out 1
    have hnb31 := NB249_244.out
    have hnc31 := NB244_249.out
    have hnb32 := NB249_245.out
    have hnc32 := NB245_249.out
    have hcz33_0 : w21.cell? ⟨gb249, 0, none⟩ = some (.int .i64 t246) := (blk_cell BK249.out 0).trans rfl
    have hcz33_1 : w21.cell? ⟨gb249, 1, none⟩ = some (.int .i64 t247) := (blk_cell BK249.out 1).trans rfl
    have hfz33_0 := blk_frozen BK249.out 0
    have hfz33_1 := blk_frozen BK249.out 1
    go_wp2
    go_meet
    case rel => exact ⟨_, ((!(t250 == t246) || (!(t251 == t247)))), (by first | rfl | (simp; done) | (simp [*]; done)), H', ⟨by first | omega | exact Nat.le_refl _⟩, ⟨by (with_reducible repeat (first | refine blk_drewN ?_ _ | refine blk_drew ?_ | refine blk_alloc ?_ _)); refine blk_far ?_ NB244_253.out _; (with_reducible repeat (first | refine blk_drewN ?_ _ | refine blk_drew ?_ | refine blk_alloc ?_ _)); refine blk_far ?_ NB244_253.out _; (with_reducible repeat (first | refine blk_drewN ?_ _ | refine blk_drew ?_ | refine blk_alloc ?_ _)); exact BK244.out⟩, ⟨by (with_reducible repeat (first | refine blk_drewN ?_ _ | refine blk_drew ?_ | refine blk_alloc ?_ _)); refine blk_far ?_ NB245_253.out _; (with_reducible repeat (first | refine blk_drewN ?_ _ | refine blk_drew ?_ | refine blk_alloc ?_ _)); refine blk_far ?_ NB245_253.out _; (with_reducible repeat (first | refine blk_drewN ?_ _ | refine blk_drew ?_ | refine blk_alloc ?_ _)); exact BK245.out⟩, ⟨by (with_reducible repeat (first | refine blk_drewN ?_ _ | refine blk_drew ?_ | refine blk_alloc ?_ _)); refine blk_far ?_ NB249_253.out _; (with_reducible repeat (first | refine blk_drewN ?_ _ | refine blk_drew ?_ | refine blk_alloc ?_ _)); refine blk_far ?_ NB249_253.out _; (with_reducible repeat (first | refine blk_drewN ?_ _ | refine blk_drew ?_ | refine blk_alloc ?_ _)); exact BK249.out⟩, ⟨by (with_reducible repeat (first | refine blk_drewN ?_ _ | refine blk_drew ?_ | refine blk_alloc ?_ _)); refine blk_put (cs := #[.int .i64 t250, .int .i64 0]) ?_ 1 _ rfl; (with_reducible repeat (first | refine blk_drewN ?_ _ | refine blk_drew ?_ | refine blk_alloc ?_ _)); refine blk_put (cs := #[.int .i64 0, .int .i64 0]) ?_ 0 _ rfl; (with_reducible repeat (first | refine blk_drewN ?_ _ | refine blk_drew ?_ | refine blk_alloc ?_ _)); exact BK253.out⟩, ⟨by repeat (first | (with_reducible first | exact HB.out | apply below_alloc | apply pw_below_drewN | apply below_drew1 | refine below_set ?_ GE244.out | refine below_set ?_ GE245.out | refine below_set ?_ GE249.out | refine below_set ?_ GE253.out) | exact HB.out)⟩⟩
  case rest =>
    clear HC6
    try clear c1
    try clear c2
    try clear c2b0
    try clear c2b1
    try clear p2
    try clear c3
    try clear c10
    try clear c15
    try clear c16
    try clear c22
    try clear c23
    try clear c24
    try clear c25
    try clear c26
    try clear c26b0
    try clear c26b1
    try clear c26b2
    try clear c27
    try clear c28
    try clear c29
    try clear c31
    try clear c32
    try clear hcz11_0
    try clear hcz11_1
    try clear hcz12_0
    try clear hcz12_1
    try clear hcz17_0
    try clear hcz17_1
    try clear hcz18_0
    try clear hcz18_1
    try clear hcz19_0
    try clear hcz19_1
    try clear hcz25_0
    try clear hcz25_1
    try clear hcz30_0
    try clear hcz30_1
    try clear hcz33_0
    try clear hcz33_1
    try clear hfz11_0
    try clear hfz11_1
    try clear hfz12_0
    try clear hfz12_1
    try clear hfz17_0
    try clear hfz17_1
    try clear hfz18_0
    try clear hfz18_1
    try clear hfz19_0
    try clear hfz19_1
    try clear hfz25_0
    try clear hfz25_1
    try clear hfz30_0
    try clear hfz30_1
    try clear hfz33_0
    try clear hfz33_1
    obtain ⟨kq, x39_5, rfl, HA, HJ5, BK244, BK245, BK249, BK253, HB⟩ := hcut
    cases kq with
    | zero => exact absurd HA.out (by simp [laws_FnSpanDivNone.j0])
    | succ kj5 =>
      have H := HA.out
      clear HA
      simp only [laws_FnSpanDivNone.j0] at H
      by_cases c34 : x39_5 = true
      case pos =>
        subst c34
        have H1 : (some false) = some r := by rw [if_pos rfl] at H; exact H
        clear H
        have H := H1
        clear H1
        exact absurd ((Option.some.inj H).trans HRT.out) (by decide)
      replace c34 := Bool.eq_false_iff.mpr c34
      subst c34
      have H1 : ((spec_SpanOk.f t242 t243).bind fun t254 => (if t254 = true then (if t242 ≤ 0 then ((impl_SpanNeg.f t240 t241).bind fun bt255 => ((impl_SpanDiv.f kj5 bt255.1 bt255.2 t242 t243).bind fun bt257 => (if t252 = true then (if t243 ≥ 0 then (some false) else (if bt257.2.2 = true then ((impl_SpanNeg.f t250 t251).bind fun bt261 => (some (bt257.1 == bt261.1 && (bt257.2.1 == bt261.2)))) else (some false))) else (some true)))) else ((impl_SpanNeg.f t240 t241).bind fun bt263 => ((impl_SpanDiv.f kj5 bt263.1 bt263.2 t242 t243).bind fun bt265 => (if t252 = true then (if bt265.2.2 = true then ((impl_SpanNeg.f t250 t251).bind fun bt269 => (some (bt265.1 == bt269.1 && (bt265.2.1 == bt269.2)))) else (some false)) else (some true))))) else ((impl_SpanNeg.f t240 t241).bind fun bt271 => ((impl_SpanDiv.f kj5 bt271.1 bt271.2 t242 t243).bind fun bt273 => (if t252 = true then (if bt273.2.2 = true then ((impl_SpanNeg.f t250 t251).bind fun bt277 => (some (bt273.1 == bt277.1 && (bt273.2.1 == bt277.2)))) else (some false)) else (some true)))))) = some r := by rw [if_neg (show ¬ (false = true) by decide)] at H; exact H
      clear H
      have H := H1
      clear H1
      replace H := Option.bind_eq_some_iff.mp H
      obtain ⟨t254, A350, H⟩ := H
      replace H : (if t254 = true then (if t242 ≤ 0 then ((impl_SpanNeg.f t240 t241).bind fun bt255 => ((impl_SpanDiv.f kj5 bt255.1 bt255.2 t242 t243).bind fun bt257 => (if t252 = true then (if t243 ≥ 0 then (some false) else (if bt257.2.2 = true then ((impl_SpanNeg.f t250 t251).bind fun bt261 => (some (bt257.1 == bt261.1 && (bt257.2.1 == bt261.2)))) else (some false))) else (some true)))) else ((impl_SpanNeg.f t240 t241).bind fun bt263 => ((impl_SpanDiv.f kj5 bt263.1 bt263.2 t242 t243).bind fun bt265 => (if t252 = true then (if bt265.2.2 = true then ((impl_SpanNeg.f t250 t251).bind fun bt269 => (some (bt265.1 == bt269.1 && (bt265.2.1 == bt269.2)))) else (some false)) else (some true))))) else ((impl_SpanNeg.f t240 t241).bind fun bt271 => ((impl_SpanDiv.f kj5 bt271.1 bt271.2 t242 t243).bind fun bt273 => (if t252 = true then (if bt273.2.2 = true then ((impl_SpanNeg.f t250 t251).bind fun bt277 => (some (bt273.1 == bt277.1 && (bt273.2.1 == bt277.2)))) else (some false)) else (some true))))) = some r := H
      have A35 := Aside0.mk A350
      clear A350
      by_cases c36 : t254 = true
      case neg =>
        replace c36 := Bool.eq_false_iff.mpr c36
        subst c36
        have H1 : ((impl_SpanNeg.f t240 t241).bind fun bt271 => ((impl_SpanDiv.f kj5 bt271.1 bt271.2 t242 t243).bind fun bt273 => (if t252 = true then (if bt273.2.2 = true then ((impl_SpanNeg.f t250 t251).bind fun bt277 => (some (bt273.1 == bt277.1 && (bt273.2.1 == bt277.2)))) else (some false)) else (some true)))) = some r := by rw [if_neg (show ¬ (false = true) by decide)] at H; exact H
        clear H
        have H := H1
        clear H1
        replace H := Option.bind_eq_some_iff.mp H
        obtain ⟨⟨t271, t272⟩, A1560, H⟩ := H
        replace H : ((impl_SpanDiv.f kj5 t271 t272 t242 t243).bind fun bt273 => (if t252 = true then (if bt273.2.2 = true then ((impl_SpanNeg.f t250 t251).bind fun bt277 => (some (bt273.1 == bt277.1 && (bt273.2.1 == bt277.2)))) else (some false)) else (some true))) = some r := H
        have A156 := Aside0.mk A1560
        clear A1560
        replace H := Option.bind_eq_some_iff.mp H
        obtain ⟨⟨t273, t274, t275⟩, A1570, H⟩ := H
        replace H : (if t252 = true then (if t275 = true then ((impl_SpanNeg.f t250 t251).bind fun bt277 => (some (t273 == bt277.1 && (t274 == bt277.2)))) else (some false)) else (some true)) = some r := H
        have A157 := Aside0.mk A1570
        clear A1570
        by_cases c158 : t252 = true
        case pos => exact absurd c158 (by have e0 := EQ1a.out; have e1 := EQ1b.out; have e2 := EQ1c.out; have e3 := EQS.out; (try subst e0); (try subst e1); (try subst e2); (try subst e3); first | (simp; done) | simp_all)
        replace c158 := Bool.eq_false_iff.mpr c158
        subst c158
        have H1 : (some true) = some r := by rw [if_neg (show ¬ (false = true) by decide)] at H; exact H
        clear H
        have H := H1
        clear H1
        obtain rfl := Option.some.inj H
        have hnb190 := NB245_244.out
        have hnc190 := NB244_245.out
        have hnb191 := NB245_249.out
        have hnc191 := NB249_245.out
        have hnb192 := NB245_253.out
        have hnc192 := NB253_245.out
        have hcz193_0 : wc.cell? ⟨gb245, 0, none⟩ = some (.int .i64 t242) := (blk_cell BK245.out 0).trans rfl
        have hcz193_1 : wc.cell? ⟨gb245, 1, none⟩ = some (.int .i64 t243) := (blk_cell BK245.out 1).trans rfl
        have hfz193_0 := blk_frozen BK245.out 0
        have hfz193_1 := blk_frozen BK245.out 1
        try go_wp2_with (first | ((with_reducible refine gate_callee (f := 28) rfl ?_); refine goesL_ (some 41) rfl rfl Try.func28 (by kernel_rfl) rfl #[.agg #[.int .i64 t242, .int .i64 t243]] rfl (by (try simp only [List.map_toArray, List.map_cons, List.map_nil]); first | done | rfl | (simp only [List.length_drop, List.length_take]; rfl)) ?_; (with_reducible refine (spec_SpanOk.calls t242 t243 false _ A35.out).mono ?_); rintro e w194 ⟨rfl, hb⟩; refine ⟨_, rfl, ?_⟩; have n0_ := Aside0.mk (blk_below (g := gb244) (o := .cells #[.int .i64 t240, .int .i64 t241] 30 (0, 0)) (by (with_reducible repeat (first | refine blk_drewN ?_ _ | refine blk_drew ?_ | refine blk_alloc ?_ _)); exact BK244.out) hb); have n1_ := Aside0.mk (blk_below (g := gb245) (o := .cells #[.int .i64 t242, .int .i64 t243] 30 (0, 0)) (by (with_reducible repeat (first | refine blk_drewN ?_ _ | refine blk_drew ?_ | refine blk_alloc ?_ _)); exact BK245.out) hb); have n2_ := Aside0.mk (blk_below (g := gb249) (o := .cells #[.int .i64 t246, .int .i64 t247] 30 (0, 0)) (by (with_reducible repeat (first | refine blk_drewN ?_ _ | refine blk_drew ?_ | refine blk_alloc ?_ _)); exact BK249.out) hb); have n3_ := Aside0.mk (blk_below (g := gb253) (o := .cells #[.int .i64 t250, .int .i64 t251] 30 (0, 0)) (by (with_reducible repeat (first | refine blk_drewN ?_ _ | refine blk_drew ?_ | refine blk_alloc ?_ _)); exact BK253.out) hb); have n4_ := Aside0.mk (below_step (by repeat (first | (with_reducible first | exact HB.out | apply below_alloc | apply pw_below_drewN | apply below_drew1 | refine below_set ?_ GE244.out | refine below_set ?_ GE245.out | refine below_set ?_ GE249.out | refine below_set ?_ GE253.out) | exact HB.out)) hb); clear BK244; clear BK245; clear BK249; clear BK253; clear HB; have BK244 := n0_; have BK245 := n1_; have BK249 := n2_; have BK253 := n3_; have HB := n4_; clear n0_ n1_ n2_ n3_ n4_; (try clear hb); (try clear hb2); (try clear hk); (try clear hi)))
        have n0_ := Aside0.mk (blk_drew BK244.out)
        have n1_ := Aside0.mk (blk_drew BK245.out)
        have n2_ := Aside0.mk (blk_drew BK249.out)
        have n3_ := Aside0.mk (blk_drew BK253.out)
        have n4_ := Aside0.mk (below_drew1 HB.out)
        clear BK244 BK245 BK249 BK253 HB
        have BK244 := n0_; have BK245 := n1_; have BK249 := n2_; have BK253 := n3_; have HB := n4_
        clear n0_ n1_ n2_ n3_ n4_
        refine start_ (n := 10) (S := fun w' => w'.cell? ⟨gb244, 0, none⟩ = some (.int .i64 t240) ∧ w'.cell? ⟨gb244, 1, none⟩ = some (.int .i64 t241) ∧ w'.cell? ⟨gb245, 0, none⟩ = some (.int .i64 t242) ∧ w'.cell? ⟨gb245, 1, none⟩ = some (.int .i64 t243)) (ds := []) #[false, false, false, false, false, false, false, false, false, false] (by kernel_rfl) rfl rfl ⟨(blk_cell BK244.out 0).trans rfl, (blk_cell BK244.out 1).trans rfl, (blk_cell BK245.out 0).trans rfl, (blk_cell BK245.out 1).trans rfl⟩ (fun hHeld => ?_); refine with_tabW laws_FnSpanDivNone.tab9 laws_FnSpanDivNone.bits9 (fun HT_ HW_ => ?_)
        generalize w194.drew = w195 at BK244 BK245 BK249 BK253 HB hHeld ⊢
        refine take_ (i := 0) (N := some 53) (v := ?_) (a' := ?_) #[true, false, false, false, false, false, false, false, false, false] rfl rfl (take_ofW HT_.out HW_.out (by kernel_rfl)) (fun _ _ _ h => h) (Or.inl ⟨by rfl, ?_⟩) hHeld ?_ ?_
        rotate_left
        · rintro w' ⟨s0, s1, s2, s3⟩
          go_simp
          with_reducible rfl
        rotate_left
        · simp only [Act.put, List.setIfInBounds_toArray, List.set_cons_zero, List.set_cons_succ, i64_w, i32_w]
          rfl
        refine take_ (i := 2) (N := some 55) (v := ?_) (a' := ?_) #[true, false, true, false, false, false, false, false, false, false] rfl rfl (take_ofW HT_.out HW_.out (by kernel_rfl)) (fun _ _ _ h => h) (Or.inl ⟨by rfl, ?_⟩) hHeld ?_ ?_
        rotate_left
        · rintro w' ⟨s0, s1, s2, s3⟩
          go_simp
          with_reducible rfl
        rotate_left
        · simp only [Act.put, List.setIfInBounds_toArray, List.set_cons_zero, List.set_cons_succ, i64_w, i32_w]
          rfl
        refine join_ (σ := Nat) 2 #[true, true, true, true, true, true, true, true, false, false] (fun s_ => [(54, .agg #[.int .i64 t271, .int .i64 t272]), (56, .tuple #[.agg #[.int .i64 t273, .int .i64 t274], .bool t275]), (10, .pointer (some ⟨s_, 0, none⟩)), (52, .tuple #[.agg #[.int .i64 t273, .int .i64 t274], .bool t275]), (57, .agg #[.int .i64 t273, .int .i64 t274]), (58, .bool t275)]) (fun s_ w' => (w'.cell? ⟨gb244, 0, none⟩ = some (.int .i64 t240) ∧ w'.cell? ⟨gb244, 1, none⟩ = some (.int .i64 t241) ∧ w'.cell? ⟨gb245, 0, none⟩ = some (.int .i64 t242) ∧ w'.cell? ⟨gb245, 1, none⟩ = some (.int .i64 t243)) ∧ (w'.heap[gb244]? = some (.cells #[.int .i64 t240, .int .i64 t241] 30 (0, 0))) ∧ (w'.heap[gb245]? = some (.cells #[.int .i64 t242, .int .i64 t243] 30 (0, 0))) ∧ (w'.heap[gb249]? = some (.cells #[.int .i64 t246, .int .i64 t247] 30 (0, 0))) ∧ (w'.heap[gb253]? = some (.cells #[.int .i64 t250, .int .i64 t251] 30 (0, 0))) ∧ (w'.heap[s_]? = some (.cells #[.int .i64 0, .int .i64 0] 30 (0, 0))) ∧ (w.heap.size ≤ s_) ∧ (w.heap.size ≤ s_) ∧ (gb244 ≠ s_) ∧ (s_ ≠ gb244) ∧ (gb245 ≠ s_) ∧ (s_ ≠ gb245) ∧ (gb249 ≠ s_) ∧ (s_ ≠ gb249) ∧ (gb253 ≠ s_) ∧ (s_ ≠ gb253) ∧ (Below w.heap.size w w')) ?_ ?_
        rotate_left
        · intro hCont
          refine two_ (i := 1) (j := 7) (Ni := some 54) (Nj := some 10) #[true, true, true, false, false, false, false, false, false, false] #[true, false, true, false, false, false, false, true, false, false] rfl rfl rfl rfl (two_of HT_.out (by kernel_rfl)) (by decide) (by decide) (fun K hK => ?_) (fun K hK => ?_)
          · skip
            refine goes_ Try.func29 (by kernel_rfl) rfl #[.agg #[.int .i64 t240, .int .i64 t241]] (by rfl) rfl rfl (by (try simp only [List.map_toArray, List.map_cons, List.map_nil]); first | done | rfl | (simp only [List.length_drop, List.length_take]; rfl)) ?_
            with_reducible refine (impl_SpanNeg.calls t240 t241 t271 t272 _ A156.out).mono ?_
            rintro e w196 ⟨rfl, hb⟩
            refine ⟨_, rfl, ?_⟩
            have n0_ := Aside0.mk (blk_below (g := gb244) (o := .cells #[.int .i64 t240, .int .i64 t241] 30 (0, 0)) BK244.out hb)
            have n1_ := Aside0.mk (blk_below (g := gb245) (o := .cells #[.int .i64 t242, .int .i64 t243] 30 (0, 0)) BK245.out hb)
            have n2_ := Aside0.mk (blk_below (g := gb249) (o := .cells #[.int .i64 t246, .int .i64 t247] 30 (0, 0)) BK249.out hb)
            have n3_ := Aside0.mk (blk_below (g := gb253) (o := .cells #[.int .i64 t250, .int .i64 t251] 30 (0, 0)) BK253.out hb)
            have n4_ := Aside0.mk (below_step HB.out hb)
            clear BK244 BK245 BK249 BK253 HB
            have BK244 := n0_; have BK245 := n1_; have BK249 := n2_; have BK253 := n3_; have HB := n4_
            clear n0_ n1_ n2_ n3_ n4_
            (try clear hb)
            (try clear hb2)
            (try clear hk)
            (try clear hi)
            refine hK.out _ _ ⟨(blk_cell BK244.out 0).trans rfl, (blk_cell BK244.out 1).trans rfl, (blk_cell BK245.out 0).trans rfl, (blk_cell BK245.out 1).trans rfl⟩ (fun hHeld => ?_)
            clear hK K
            refine norm_ (a' := ?_) ?_ ?_
            rotate_left
            · show Act.put _ (some 54) _ = _
              simp only [Act.put, List.setIfInBounds_toArray, List.set_cons_zero, List.set_cons_succ, i64_w, i32_w]
              rfl
            refine two_ (i := 3) (j := 7) (Ni := some 56) (Nj := some 10) #[true, true, true, true, false, false, false, false, false, false] #[true, true, true, false, false, false, false, true, false, false] rfl rfl rfl rfl (two_of HT_.out (by kernel_rfl)) (by decide) (by decide) (fun K hK => ?_) (fun K hK => ?_)
            · skip
              refine goes_ Try.func27 (by kernel_rfl) rfl #[.agg #[.int .i64 t271, .int .i64 t272], .agg #[.int .i64 t242, .int .i64 t243]] (by rfl) rfl rfl (by (try simp only [List.map_toArray, List.map_cons, List.map_nil]); first | done | rfl | (simp only [List.length_drop, List.length_take]; rfl)) ?_
              with_reducible refine (impl_SpanDiv.calls kj5 t271 t272 t242 t243 t273 t274 t275 _ A157.out).mono ?_
              rintro e w197 ⟨rfl, hb⟩
              refine ⟨_, rfl, ?_⟩
              have n0_ := Aside0.mk (blk_below (g := gb244) (o := .cells #[.int .i64 t240, .int .i64 t241] 30 (0, 0)) BK244.out hb)
              have n1_ := Aside0.mk (blk_below (g := gb245) (o := .cells #[.int .i64 t242, .int .i64 t243] 30 (0, 0)) BK245.out hb)
              have n2_ := Aside0.mk (blk_below (g := gb249) (o := .cells #[.int .i64 t246, .int .i64 t247] 30 (0, 0)) BK249.out hb)
              have n3_ := Aside0.mk (blk_below (g := gb253) (o := .cells #[.int .i64 t250, .int .i64 t251] 30 (0, 0)) BK253.out hb)
              have n4_ := Aside0.mk (below_step HB.out hb)
              clear BK244 BK245 BK249 BK253 HB
              have BK244 := n0_; have BK245 := n1_; have BK249 := n2_; have BK253 := n3_; have HB := n4_
              clear n0_ n1_ n2_ n3_ n4_
              (try clear hb)
              (try clear hb2)
              (try clear hk)
              (try clear hi)
              refine hK.out _ _ ⟨(blk_cell BK244.out 0).trans rfl, (blk_cell BK244.out 1).trans rfl, (blk_cell BK245.out 0).trans rfl, (blk_cell BK245.out 1).trans rfl⟩ (fun hHeld => ?_)
              clear hK K
              refine norm_ (a' := ?_) ?_ ?_
              rotate_left
              · show Act.put _ (some 56) _ = _
                simp only [Act.put, List.setIfInBounds_toArray, List.set_cons_zero, List.set_cons_succ, i64_w, i32_w]
                rfl
              refine pure_ (i := 4) (N := some 52) (v := ?_) (a' := ?_) #[true, true, true, true, true, false, false, false, false, false] rfl rfl (any_of HT_.out (by kernel_rfl)) (fun _ _ _ h => h) (Or.inl ⟨by rfl, ?_⟩) ?_ ?_
              rotate_left
              · intro w'
                go_simp
                with_reducible rfl
              rotate_left
              · simp only [Act.put, List.setIfInBounds_toArray, List.set_cons_zero, List.set_cons_succ, i64_w, i32_w]
                rfl
              refine pure_ (i := 5) (N := some 57) (v := ?_) (a' := ?_) #[true, true, true, true, true, true, false, false, false, false] rfl rfl (any_of HT_.out (by kernel_rfl)) (fun _ _ _ h => h) (Or.inl ⟨by rfl, ?_⟩) ?_ ?_
              rotate_left
              · intro w'
                go_simp
                with_reducible rfl
              rotate_left
              · simp only [Act.put, List.setIfInBounds_toArray, List.set_cons_zero, List.set_cons_succ, i64_w, i32_w]
                rfl
              refine pure_ (i := 6) (N := some 58) (v := ?_) (a' := ?_) #[true, true, true, true, true, true, true, false, false, false] rfl rfl (any_of HT_.out (by kernel_rfl)) (fun _ _ _ h => h) (Or.inl ⟨by rfl, ?_⟩) ?_ ?_
              rotate_left
              · intro w'
                go_simp
                with_reducible rfl
              rotate_left
              · simp only [Act.put, List.setIfInBounds_toArray, List.set_cons_zero, List.set_cons_succ, i64_w, i32_w]
                rfl
              refine one_ (i := 7) (N := some 10) #[true, true, true, true, true, true, true, true, false, false] rfl rfl (one_of HT_.out (by kernel_rfl)) (by decide) (fun K hK => ?_)
              refine box_step ?hg (N := 10) ?hd (cs := #[.int .i64 0, .int .i64 0]) (t := 30) ?hr ?_; (case hd => rfl); (case hg => rfl); (case hr => first | (go_simp; done) | (go_simp; rfl))
              intro gb276 hg w198 hbox hb
              have n0_ := Aside0.mk (blk_below (g := gb244) (o := .cells #[.int .i64 t240, .int .i64 t241] 30 (0, 0)) BK244.out hb)
              have n1_ := Aside0.mk (blk_below (g := gb245) (o := .cells #[.int .i64 t242, .int .i64 t243] 30 (0, 0)) BK245.out hb)
              have n2_ := Aside0.mk (blk_below (g := gb249) (o := .cells #[.int .i64 t246, .int .i64 t247] 30 (0, 0)) BK249.out hb)
              have n3_ := Aside0.mk (blk_below (g := gb253) (o := .cells #[.int .i64 t250, .int .i64 t251] 30 (0, 0)) BK253.out hb)
              have n4_ := Aside0.mk (below_step HB.out hb)
              have n5_ := Aside0.mk (hbox)
              have n6_ := Aside0.mk ((by rw [hg]; exact (below_size HB.out) : w.heap.size ≤ gb276))
              have n7_ := Aside0.mk ((by rw [hg]; exact (below_size HB.out) : w.heap.size ≤ gb276))
              have n8_ := Aside0.mk ((by rw [hg]; exact Nat.ne_of_lt (blk_lt (g := gb244) (o := .cells #[.int .i64 t240, .int .i64 t241] 30 (0, 0)) BK244.out) : gb244 ≠ gb276))
              have n9_ := Aside0.mk ((by rw [hg]; exact Nat.ne_of_gt (blk_lt (g := gb244) (o := .cells #[.int .i64 t240, .int .i64 t241] 30 (0, 0)) BK244.out) : gb276 ≠ gb244))
              have n10_ := Aside0.mk ((by rw [hg]; exact Nat.ne_of_lt (blk_lt (g := gb245) (o := .cells #[.int .i64 t242, .int .i64 t243] 30 (0, 0)) BK245.out) : gb245 ≠ gb276))
              have n11_ := Aside0.mk ((by rw [hg]; exact Nat.ne_of_gt (blk_lt (g := gb245) (o := .cells #[.int .i64 t242, .int .i64 t243] 30 (0, 0)) BK245.out) : gb276 ≠ gb245))
              have n12_ := Aside0.mk ((by rw [hg]; exact Nat.ne_of_lt (blk_lt (g := gb249) (o := .cells #[.int .i64 t246, .int .i64 t247] 30 (0, 0)) BK249.out) : gb249 ≠ gb276))
              have n13_ := Aside0.mk ((by rw [hg]; exact Nat.ne_of_gt (blk_lt (g := gb249) (o := .cells #[.int .i64 t246, .int .i64 t247] 30 (0, 0)) BK249.out) : gb276 ≠ gb249))
              have n14_ := Aside0.mk ((by rw [hg]; exact Nat.ne_of_lt (blk_lt (g := gb253) (o := .cells #[.int .i64 t250, .int .i64 t251] 30 (0, 0)) BK253.out) : gb253 ≠ gb276))
              have n15_ := Aside0.mk ((by rw [hg]; exact Nat.ne_of_gt (blk_lt (g := gb253) (o := .cells #[.int .i64 t250, .int .i64 t251] 30 (0, 0)) BK253.out) : gb276 ≠ gb253))
              clear BK244 BK245 BK249 BK253 HB
              have BK244 := n0_; have BK245 := n1_; have BK249 := n2_; have BK253 := n3_; have HB := n4_; have BK276 := n5_; have GW276 := n6_; have GE276 := n7_; have NB244_276 := n8_; have NB276_244 := n9_; have NB245_276 := n10_; have NB276_245 := n11_; have NB249_276 := n12_; have NB276_249 := n13_; have NB253_276 := n14_; have NB276_253 := n15_
              clear n0_ n1_ n2_ n3_ n4_ n5_ n6_ n7_ n8_ n9_ n10_ n11_ n12_ n13_ n14_ n15_
              clear hb hbox hg
              refine hK.out _ _ ⟨(blk_cell BK244.out 0).trans rfl, (blk_cell BK244.out 1).trans rfl, (blk_cell BK245.out 0).trans rfl, (blk_cell BK245.out 1).trans rfl⟩ (fun hHeld => ?_)
              clear hK K
              refine norm_ (a' := ?_) ?_ ?_
              rotate_left
              · show Act.put _ (some 10) _ = _
                simp only [Act.put, List.setIfInBounds_toArray, List.set_cons_zero, List.set_cons_succ, i64_w, i32_w]
                rfl
              exact norm_ (by simp only [putAll, Act.put, List.setIfInBounds_toArray, List.set_cons_zero, List.set_cons_succ]) (hCont (gb276) _ ⟨hHeld, BK244.out, BK245.out, BK249.out, BK253.out, BK276.out, GW276.out, GE276.out, NB244_276.out, NB276_244.out, NB245_276.out, NB276_245.out, NB249_276.out, NB276_249.out, NB253_276.out, NB276_253.out, HB.out⟩)
            · skip
              refine box_step ?hg (N := 10) ?hd (cs := #[.int .i64 0, .int .i64 0]) (t := 30) ?hr ?_; (case hd => rfl); (case hg => rfl); (case hr => first | (go_simp; done) | (go_simp; rfl))
              intro gb276 hg w197 hbox hb
              have n0_ := Aside0.mk (blk_below (g := gb244) (o := .cells #[.int .i64 t240, .int .i64 t241] 30 (0, 0)) BK244.out hb)
              have n1_ := Aside0.mk (blk_below (g := gb245) (o := .cells #[.int .i64 t242, .int .i64 t243] 30 (0, 0)) BK245.out hb)
              have n2_ := Aside0.mk (blk_below (g := gb249) (o := .cells #[.int .i64 t246, .int .i64 t247] 30 (0, 0)) BK249.out hb)
              have n3_ := Aside0.mk (blk_below (g := gb253) (o := .cells #[.int .i64 t250, .int .i64 t251] 30 (0, 0)) BK253.out hb)
              have n4_ := Aside0.mk (below_step HB.out hb)
              have n5_ := Aside0.mk (hbox)
              have n6_ := Aside0.mk ((by rw [hg]; exact (below_size HB.out) : w.heap.size ≤ gb276))
              have n7_ := Aside0.mk ((by rw [hg]; exact (below_size HB.out) : w.heap.size ≤ gb276))
              have n8_ := Aside0.mk ((by rw [hg]; exact Nat.ne_of_lt (blk_lt (g := gb244) (o := .cells #[.int .i64 t240, .int .i64 t241] 30 (0, 0)) BK244.out) : gb244 ≠ gb276))
              have n9_ := Aside0.mk ((by rw [hg]; exact Nat.ne_of_gt (blk_lt (g := gb244) (o := .cells #[.int .i64 t240, .int .i64 t241] 30 (0, 0)) BK244.out) : gb276 ≠ gb244))
              have n10_ := Aside0.mk ((by rw [hg]; exact Nat.ne_of_lt (blk_lt (g := gb245) (o := .cells #[.int .i64 t242, .int .i64 t243] 30 (0, 0)) BK245.out) : gb245 ≠ gb276))
              have n11_ := Aside0.mk ((by rw [hg]; exact Nat.ne_of_gt (blk_lt (g := gb245) (o := .cells #[.int .i64 t242, .int .i64 t243] 30 (0, 0)) BK245.out) : gb276 ≠ gb245))
              have n12_ := Aside0.mk ((by rw [hg]; exact Nat.ne_of_lt (blk_lt (g := gb249) (o := .cells #[.int .i64 t246, .int .i64 t247] 30 (0, 0)) BK249.out) : gb249 ≠ gb276))
              have n13_ := Aside0.mk ((by rw [hg]; exact Nat.ne_of_gt (blk_lt (g := gb249) (o := .cells #[.int .i64 t246, .int .i64 t247] 30 (0, 0)) BK249.out) : gb276 ≠ gb249))
              have n14_ := Aside0.mk ((by rw [hg]; exact Nat.ne_of_lt (blk_lt (g := gb253) (o := .cells #[.int .i64 t250, .int .i64 t251] 30 (0, 0)) BK253.out) : gb253 ≠ gb276))
              have n15_ := Aside0.mk ((by rw [hg]; exact Nat.ne_of_gt (blk_lt (g := gb253) (o := .cells #[.int .i64 t250, .int .i64 t251] 30 (0, 0)) BK253.out) : gb276 ≠ gb253))
              clear BK244 BK245 BK249 BK253 HB
              have BK244 := n0_; have BK245 := n1_; have BK249 := n2_; have BK253 := n3_; have HB := n4_; have BK276 := n5_; have GW276 := n6_; have GE276 := n7_; have NB244_276 := n8_; have NB276_244 := n9_; have NB245_276 := n10_; have NB276_245 := n11_; have NB249_276 := n12_; have NB276_249 := n13_; have NB253_276 := n14_; have NB276_253 := n15_
              clear n0_ n1_ n2_ n3_ n4_ n5_ n6_ n7_ n8_ n9_ n10_ n11_ n12_ n13_ n14_ n15_
              clear hb hbox hg
              refine hK.out _ _ ⟨(blk_cell BK244.out 0).trans rfl, (blk_cell BK244.out 1).trans rfl, (blk_cell BK245.out 0).trans rfl, (blk_cell BK245.out 1).trans rfl⟩ (fun hHeld => ?_)
              clear hK K
              refine norm_ (a' := ?_) ?_ ?_
              rotate_left
              · show Act.put _ (some 10) _ = _
                simp only [Act.put, List.setIfInBounds_toArray, List.set_cons_zero, List.set_cons_succ, i64_w, i32_w]
                rfl
              refine one_ (i := 3) (N := some 56) #[true, true, true, true, false, false, false, true, false, false] rfl rfl (one_of HT_.out (by kernel_rfl)) (by decide) (fun K hK => ?_)
              refine goes_ Try.func27 (by kernel_rfl) rfl #[.agg #[.int .i64 t271, .int .i64 t272], .agg #[.int .i64 t242, .int .i64 t243]] (by rfl) rfl rfl (by (try simp only [List.map_toArray, List.map_cons, List.map_nil]); first | done | rfl | (simp only [List.length_drop, List.length_take]; rfl)) ?_
              with_reducible refine (impl_SpanDiv.calls kj5 t271 t272 t242 t243 t273 t274 t275 _ A157.out).mono ?_
              rintro e w198 ⟨rfl, hb⟩
              refine ⟨_, rfl, ?_⟩
              have n0_ := Aside0.mk (blk_below (g := gb244) (o := .cells #[.int .i64 t240, .int .i64 t241] 30 (0, 0)) BK244.out hb)
              have n1_ := Aside0.mk (blk_below (g := gb245) (o := .cells #[.int .i64 t242, .int .i64 t243] 30 (0, 0)) BK245.out hb)
              have n2_ := Aside0.mk (blk_below (g := gb249) (o := .cells #[.int .i64 t246, .int .i64 t247] 30 (0, 0)) BK249.out hb)
              have n3_ := Aside0.mk (blk_below (g := gb253) (o := .cells #[.int .i64 t250, .int .i64 t251] 30 (0, 0)) BK253.out hb)
              have n4_ := Aside0.mk (blk_below (g := gb276) (o := .cells #[.int .i64 0, .int .i64 0] 30 (0, 0)) BK276.out hb)
              have n5_ := Aside0.mk (below_step HB.out hb)
              clear BK244 BK245 BK249 BK253 BK276 HB
              have BK244 := n0_; have BK245 := n1_; have BK249 := n2_; have BK253 := n3_; have BK276 := n4_; have HB := n5_
              clear n0_ n1_ n2_ n3_ n4_ n5_
              (try clear hb)
              (try clear hb2)
              (try clear hk)
              (try clear hi)
              refine hK.out _ _ ⟨(blk_cell BK244.out 0).trans rfl, (blk_cell BK244.out 1).trans rfl, (blk_cell BK245.out 0).trans rfl, (blk_cell BK245.out 1).trans rfl⟩ (fun hHeld => ?_)
              clear hK K
              refine norm_ (a' := ?_) ?_ ?_
              rotate_left
              · show Act.put _ (some 56) _ = _
                simp only [Act.put, List.setIfInBounds_toArray, List.set_cons_zero, List.set_cons_succ, i64_w, i32_w]
                rfl
              refine pure_ (i := 4) (N := some 52) (v := ?_) (a' := ?_) #[true, true, true, true, true, false, false, true, false, false] rfl rfl (any_of HT_.out (by kernel_rfl)) (fun _ _ _ h => h) (Or.inl ⟨by rfl, ?_⟩) ?_ ?_
              rotate_left
              · intro w'
                go_simp
                with_reducible rfl
              rotate_left
              · simp only [Act.put, List.setIfInBounds_toArray, List.set_cons_zero, List.set_cons_succ, i64_w, i32_w]
                rfl
              refine pure_ (i := 5) (N := some 57) (v := ?_) (a' := ?_) #[true, true, true, true, true, true, false, true, false, false] rfl rfl (any_of HT_.out (by kernel_rfl)) (fun _ _ _ h => h) (Or.inl ⟨by rfl, ?_⟩) ?_ ?_
              rotate_left
              · intro w'
                go_simp
                with_reducible rfl
              rotate_left
              · simp only [Act.put, List.setIfInBounds_toArray, List.set_cons_zero, List.set_cons_succ, i64_w, i32_w]
                rfl
              refine pure_ (i := 6) (N := some 58) (v := ?_) (a' := ?_) #[true, true, true, true, true, true, true, true, false, false] rfl rfl (any_of HT_.out (by kernel_rfl)) (fun _ _ _ h => h) (Or.inl ⟨by rfl, ?_⟩) ?_ ?_
              rotate_left
              · intro w'
                go_simp
                with_reducible rfl
              rotate_left
              · simp only [Act.put, List.setIfInBounds_toArray, List.set_cons_zero, List.set_cons_succ, i64_w, i32_w]
                rfl
              exact norm_ (by simp only [putAll, Act.put, List.setIfInBounds_toArray, List.set_cons_zero, List.set_cons_succ]) (hCont (gb276) _ ⟨hHeld, BK244.out, BK245.out, BK249.out, BK253.out, BK276.out, GW276.out, GE276.out, NB244_276.out, NB276_244.out, NB245_276.out, NB276_245.out, NB249_276.out, NB276_249.out, NB253_276.out, NB276_253.out, HB.out⟩)
          · skip
            refine box_step ?hg (N := 10) ?hd (cs := #[.int .i64 0, .int .i64 0]) (t := 30) ?hr ?_; (case hd => rfl); (case hg => rfl); (case hr => first | (go_simp; done) | (go_simp; rfl))
            intro gb276 hg w196 hbox hb
            have n0_ := Aside0.mk (blk_below (g := gb244) (o := .cells #[.int .i64 t240, .int .i64 t241] 30 (0, 0)) BK244.out hb)
            have n1_ := Aside0.mk (blk_below (g := gb245) (o := .cells #[.int .i64 t242, .int .i64 t243] 30 (0, 0)) BK245.out hb)
            have n2_ := Aside0.mk (blk_below (g := gb249) (o := .cells #[.int .i64 t246, .int .i64 t247] 30 (0, 0)) BK249.out hb)
            have n3_ := Aside0.mk (blk_below (g := gb253) (o := .cells #[.int .i64 t250, .int .i64 t251] 30 (0, 0)) BK253.out hb)
            have n4_ := Aside0.mk (below_step HB.out hb)
            have n5_ := Aside0.mk (hbox)
            have n6_ := Aside0.mk ((by rw [hg]; exact (below_size HB.out) : w.heap.size ≤ gb276))
            have n7_ := Aside0.mk ((by rw [hg]; exact (below_size HB.out) : w.heap.size ≤ gb276))
            have n8_ := Aside0.mk ((by rw [hg]; exact Nat.ne_of_lt (blk_lt (g := gb244) (o := .cells #[.int .i64 t240, .int .i64 t241] 30 (0, 0)) BK244.out) : gb244 ≠ gb276))
            have n9_ := Aside0.mk ((by rw [hg]; exact Nat.ne_of_gt (blk_lt (g := gb244) (o := .cells #[.int .i64 t240, .int .i64 t241] 30 (0, 0)) BK244.out) : gb276 ≠ gb244))
            have n10_ := Aside0.mk ((by rw [hg]; exact Nat.ne_of_lt (blk_lt (g := gb245) (o := .cells #[.int .i64 t242, .int .i64 t243] 30 (0, 0)) BK245.out) : gb245 ≠ gb276))
            have n11_ := Aside0.mk ((by rw [hg]; exact Nat.ne_of_gt (blk_lt (g := gb245) (o := .cells #[.int .i64 t242, .int .i64 t243] 30 (0, 0)) BK245.out) : gb276 ≠ gb245))
            have n12_ := Aside0.mk ((by rw [hg]; exact Nat.ne_of_lt (blk_lt (g := gb249) (o := .cells #[.int .i64 t246, .int .i64 t247] 30 (0, 0)) BK249.out) : gb249 ≠ gb276))
            have n13_ := Aside0.mk ((by rw [hg]; exact Nat.ne_of_gt (blk_lt (g := gb249) (o := .cells #[.int .i64 t246, .int .i64 t247] 30 (0, 0)) BK249.out) : gb276 ≠ gb249))
            have n14_ := Aside0.mk ((by rw [hg]; exact Nat.ne_of_lt (blk_lt (g := gb253) (o := .cells #[.int .i64 t250, .int .i64 t251] 30 (0, 0)) BK253.out) : gb253 ≠ gb276))
            have n15_ := Aside0.mk ((by rw [hg]; exact Nat.ne_of_gt (blk_lt (g := gb253) (o := .cells #[.int .i64 t250, .int .i64 t251] 30 (0, 0)) BK253.out) : gb276 ≠ gb253))
            clear BK244 BK245 BK249 BK253 HB
            have BK244 := n0_; have BK245 := n1_; have BK249 := n2_; have BK253 := n3_; have HB := n4_; have BK276 := n5_; have GW276 := n6_; have GE276 := n7_; have NB244_276 := n8_; have NB276_244 := n9_; have NB245_276 := n10_; have NB276_245 := n11_; have NB249_276 := n12_; have NB276_249 := n13_; have NB253_276 := n14_; have NB276_253 := n15_
            clear n0_ n1_ n2_ n3_ n4_ n5_ n6_ n7_ n8_ n9_ n10_ n11_ n12_ n13_ n14_ n15_
            clear hb hbox hg
            refine hK.out _ _ ⟨(blk_cell BK244.out 0).trans rfl, (blk_cell BK244.out 1).trans rfl, (blk_cell BK245.out 0).trans rfl, (blk_cell BK245.out 1).trans rfl⟩ (fun hHeld => ?_)
            clear hK K
            refine norm_ (a' := ?_) ?_ ?_
            rotate_left
            · show Act.put _ (some 10) _ = _
              simp only [Act.put, List.setIfInBounds_toArray, List.set_cons_zero, List.set_cons_succ, i64_w, i32_w]
              rfl
            refine one_ (i := 1) (N := some 54) #[true, true, true, false, false, false, false, true, false, false] rfl rfl (one_of HT_.out (by kernel_rfl)) (by decide) (fun K hK => ?_)
            refine goes_ Try.func29 (by kernel_rfl) rfl #[.agg #[.int .i64 t240, .int .i64 t241]] (by rfl) rfl rfl (by (try simp only [List.map_toArray, List.map_cons, List.map_nil]); first | done | rfl | (simp only [List.length_drop, List.length_take]; rfl)) ?_
            with_reducible refine (impl_SpanNeg.calls t240 t241 t271 t272 _ A156.out).mono ?_
            rintro e w197 ⟨rfl, hb⟩
            refine ⟨_, rfl, ?_⟩
            have n0_ := Aside0.mk (blk_below (g := gb244) (o := .cells #[.int .i64 t240, .int .i64 t241] 30 (0, 0)) BK244.out hb)
            have n1_ := Aside0.mk (blk_below (g := gb245) (o := .cells #[.int .i64 t242, .int .i64 t243] 30 (0, 0)) BK245.out hb)
            have n2_ := Aside0.mk (blk_below (g := gb249) (o := .cells #[.int .i64 t246, .int .i64 t247] 30 (0, 0)) BK249.out hb)
            have n3_ := Aside0.mk (blk_below (g := gb253) (o := .cells #[.int .i64 t250, .int .i64 t251] 30 (0, 0)) BK253.out hb)
            have n4_ := Aside0.mk (blk_below (g := gb276) (o := .cells #[.int .i64 0, .int .i64 0] 30 (0, 0)) BK276.out hb)
            have n5_ := Aside0.mk (below_step HB.out hb)
            clear BK244 BK245 BK249 BK253 BK276 HB
            have BK244 := n0_; have BK245 := n1_; have BK249 := n2_; have BK253 := n3_; have BK276 := n4_; have HB := n5_
            clear n0_ n1_ n2_ n3_ n4_ n5_
            (try clear hb)
            (try clear hb2)
            (try clear hk)
            (try clear hi)
            refine hK.out _ _ ⟨(blk_cell BK244.out 0).trans rfl, (blk_cell BK244.out 1).trans rfl, (blk_cell BK245.out 0).trans rfl, (blk_cell BK245.out 1).trans rfl⟩ (fun hHeld => ?_)
            clear hK K
            refine norm_ (a' := ?_) ?_ ?_
            rotate_left
            · show Act.put _ (some 54) _ = _
              simp only [Act.put, List.setIfInBounds_toArray, List.set_cons_zero, List.set_cons_succ, i64_w, i32_w]
              rfl
            refine one_ (i := 3) (N := some 56) #[true, true, true, true, false, false, false, true, false, false] rfl rfl (one_of HT_.out (by kernel_rfl)) (by decide) (fun K hK => ?_)
            refine goes_ Try.func27 (by kernel_rfl) rfl #[.agg #[.int .i64 t271, .int .i64 t272], .agg #[.int .i64 t242, .int .i64 t243]] (by rfl) rfl rfl (by (try simp only [List.map_toArray, List.map_cons, List.map_nil]); first | done | rfl | (simp only [List.length_drop, List.length_take]; rfl)) ?_
            with_reducible refine (impl_SpanDiv.calls kj5 t271 t272 t242 t243 t273 t274 t275 _ A157.out).mono ?_
            rintro e w198 ⟨rfl, hb⟩
            refine ⟨_, rfl, ?_⟩
            have n0_ := Aside0.mk (blk_below (g := gb244) (o := .cells #[.int .i64 t240, .int .i64 t241] 30 (0, 0)) BK244.out hb)
            have n1_ := Aside0.mk (blk_below (g := gb245) (o := .cells #[.int .i64 t242, .int .i64 t243] 30 (0, 0)) BK245.out hb)
            have n2_ := Aside0.mk (blk_below (g := gb249) (o := .cells #[.int .i64 t246, .int .i64 t247] 30 (0, 0)) BK249.out hb)
            have n3_ := Aside0.mk (blk_below (g := gb253) (o := .cells #[.int .i64 t250, .int .i64 t251] 30 (0, 0)) BK253.out hb)
            have n4_ := Aside0.mk (blk_below (g := gb276) (o := .cells #[.int .i64 0, .int .i64 0] 30 (0, 0)) BK276.out hb)
            have n5_ := Aside0.mk (below_step HB.out hb)
            clear BK244 BK245 BK249 BK253 BK276 HB
            have BK244 := n0_; have BK245 := n1_; have BK249 := n2_; have BK253 := n3_; have BK276 := n4_; have HB := n5_
            clear n0_ n1_ n2_ n3_ n4_ n5_
            (try clear hb)
            (try clear hb2)
            (try clear hk)
            (try clear hi)
            refine hK.out _ _ ⟨(blk_cell BK244.out 0).trans rfl, (blk_cell BK244.out 1).trans rfl, (blk_cell BK245.out 0).trans rfl, (blk_cell BK245.out 1).trans rfl⟩ (fun hHeld => ?_)
            clear hK K
            refine norm_ (a' := ?_) ?_ ?_
            rotate_left
            · show Act.put _ (some 56) _ = _
              simp only [Act.put, List.setIfInBounds_toArray, List.set_cons_zero, List.set_cons_succ, i64_w, i32_w]
              rfl
            refine pure_ (i := 4) (N := some 52) (v := ?_) (a' := ?_) #[true, true, true, true, true, false, false, true, false, false] rfl rfl (any_of HT_.out (by kernel_rfl)) (fun _ _ _ h => h) (Or.inl ⟨by rfl, ?_⟩) ?_ ?_
            rotate_left
            · intro w'
              go_simp
              with_reducible rfl
            rotate_left
            · simp only [Act.put, List.setIfInBounds_toArray, List.set_cons_zero, List.set_cons_succ, i64_w, i32_w]
              rfl
            refine pure_ (i := 5) (N := some 57) (v := ?_) (a' := ?_) #[true, true, true, true, true, true, false, true, false, false] rfl rfl (any_of HT_.out (by kernel_rfl)) (fun _ _ _ h => h) (Or.inl ⟨by rfl, ?_⟩) ?_ ?_
            rotate_left
            · intro w'
              go_simp
              with_reducible rfl
            rotate_left
            · simp only [Act.put, List.setIfInBounds_toArray, List.set_cons_zero, List.set_cons_succ, i64_w, i32_w]
              rfl
            refine pure_ (i := 6) (N := some 58) (v := ?_) (a' := ?_) #[true, true, true, true, true, true, true, true, false, false] rfl rfl (any_of HT_.out (by kernel_rfl)) (fun _ _ _ h => h) (Or.inl ⟨by rfl, ?_⟩) ?_ ?_
            rotate_left
            · intro w'
              go_simp
              with_reducible rfl
            rotate_left
            · simp only [Act.put, List.setIfInBounds_toArray, List.set_cons_zero, List.set_cons_succ, i64_w, i32_w]
              rfl
            exact norm_ (by simp only [putAll, Act.put, List.setIfInBounds_toArray, List.set_cons_zero, List.set_cons_succ]) (hCont (gb276) _ ⟨hHeld, BK244.out, BK245.out, BK249.out, BK253.out, BK276.out, GW276.out, GE276.out, NB244_276.out, NB276_244.out, NB245_276.out, NB276_245.out, NB249_276.out, NB276_249.out, NB253_276.out, NB276_253.out, HB.out⟩)
        rintro gb276 w199 ⟨hS_, h0_, h1_, h2_, h3_, h4_, h5_, h6_, h7_, h8_, h9_, h10_, h11_, h12_, h13_, h14_, h15_⟩
        have n0_ : Aside0 (w199.heap[gb244]? = some (.cells #[.int .i64 t240, .int .i64 t241] 30 (0, 0))) := ⟨h0_⟩
        have n1_ : Aside0 (w199.heap[gb245]? = some (.cells #[.int .i64 t242, .int .i64 t243] 30 (0, 0))) := ⟨h1_⟩
        have n2_ : Aside0 (w199.heap[gb249]? = some (.cells #[.int .i64 t246, .int .i64 t247] 30 (0, 0))) := ⟨h2_⟩
        have n3_ : Aside0 (w199.heap[gb253]? = some (.cells #[.int .i64 t250, .int .i64 t251] 30 (0, 0))) := ⟨h3_⟩
        have n4_ : Aside0 (w199.heap[gb276]? = some (.cells #[.int .i64 0, .int .i64 0] 30 (0, 0))) := ⟨h4_⟩
        have n5_ : Aside0 (w.heap.size ≤ gb276) := ⟨h5_⟩
        have n6_ : Aside0 (w.heap.size ≤ gb276) := ⟨h6_⟩
        have n7_ : Aside0 (gb244 ≠ gb276) := ⟨h7_⟩
        have n8_ : Aside0 (gb276 ≠ gb244) := ⟨h8_⟩
        have n9_ : Aside0 (gb245 ≠ gb276) := ⟨h9_⟩
        have n10_ : Aside0 (gb276 ≠ gb245) := ⟨h10_⟩
        have n11_ : Aside0 (gb249 ≠ gb276) := ⟨h11_⟩
        have n12_ : Aside0 (gb276 ≠ gb249) := ⟨h12_⟩
        have n13_ : Aside0 (gb253 ≠ gb276) := ⟨h13_⟩
        have n14_ : Aside0 (gb276 ≠ gb253) := ⟨h14_⟩
        have n15_ : Aside0 (Below w.heap.size w w199) := ⟨h15_⟩
        clear BK244 BK245 BK249 BK253 HB
        clear h0_ h1_ h2_ h3_ h4_ h5_ h6_ h7_ h8_ h9_ h10_ h11_ h12_ h13_ h14_ h15_
        have BK244 := n0_; have BK245 := n1_; have BK249 := n2_; have BK253 := n3_; have BK276 := n4_; have GW276 := n5_; have GE276 := n6_; have NB244_276 := n7_; have NB276_244 := n8_; have NB245_276 := n9_; have NB276_245 := n10_; have NB249_276 := n11_; have NB276_249 := n12_; have NB253_276 := n13_; have NB276_253 := n14_; have HB := n15_
        clear n0_ n1_ n2_ n3_ n4_ n5_ n6_ n7_ n8_ n9_ n10_ n11_ n12_ n13_ n14_ n15_
        have hHeld : w199.cell? ⟨gb244, 0, none⟩ = some (.int .i64 t240) ∧ w199.cell? ⟨gb244, 1, none⟩ = some (.int .i64 t241) ∧ w199.cell? ⟨gb245, 0, none⟩ = some (.int .i64 t242) ∧ w199.cell? ⟨gb245, 1, none⟩ = some (.int .i64 t243) := hS_
        refine norm_ (a' := ?_) ?_ ?_
        rotate_left
        · simp only [putAll, Act.put, List.setIfInBounds_toArray, List.set_cons_zero, List.set_cons_succ]
          rfl
        refine one_ (i := 8) (N := none) #[true, true, true, true, true, true, true, true, true, false] rfl rfl (one_of HT_.out (by kernel_rfl)) (by decide) (fun K hK => ?_)
        have hs200 : w199.cell? ⟨gb276, 0, none⟩ = some (.int .i64 0) := (blk_cell BK276.out 0).trans rfl
        have hfs200 := blk_frozen BK276.out 0
        have hns200_0 := NB244_276.out
        have hns200_1 := NB245_276.out
        have hns200_2 := NB249_276.out
        have hns200_3 := NB253_276.out
        have hms200_0 := NB276_244.out
        have hms200_1 := NB276_245.out
        have hms200_2 := NB276_249.out
        have hms200_3 := NB276_253.out
        have hs201 : w199.cell? ⟨gb276, 1, none⟩ = some (.int .i64 0) := (blk_cell BK276.out 1).trans rfl
        have hfs201 := blk_frozen BK276.out 1
        have hns201_0 := NB244_276.out
        have hns201_1 := NB245_276.out
        have hns201_2 := NB249_276.out
        have hns201_3 := NB253_276.out
        have hms201_0 := NB276_244.out
        have hms201_1 := NB276_245.out
        have hms201_2 := NB276_249.out
        have hms201_3 := NB276_253.out
        refine skip_ (w1 := ?_) (by rfl) rfl ?_ ?_
        rotate_left
        · go_simp
          rfl
        refine hK.out _ _ ⟨((cell_far (p := ⟨gb276, _, none⟩) NB244_276.out _).trans (((cell_far (p := ⟨gb276, _, none⟩) NB244_276.out _).trans (hHeld.1)))), ((cell_far (p := ⟨gb276, _, none⟩) NB244_276.out _).trans (((cell_far (p := ⟨gb276, _, none⟩) NB244_276.out _).trans (hHeld.2.1)))), ((cell_far (p := ⟨gb276, _, none⟩) NB245_276.out _).trans (((cell_far (p := ⟨gb276, _, none⟩) NB245_276.out _).trans (hHeld.2.2.1)))), ((cell_far (p := ⟨gb276, _, none⟩) NB245_276.out _).trans (((cell_far (p := ⟨gb276, _, none⟩) NB245_276.out _).trans (hHeld.2.2.2))))⟩ (fun hHeld => ?_)
        clear hK K
        refine pure_ (i := 9) (N := some 11) (v := ?_) (a' := ?_) #[true, true, true, true, true, true, true, true, true, true] rfl rfl (any_of HT_.out (by kernel_rfl)) (fun _ _ _ h => h) (Or.inl ⟨by rfl, ?_⟩) ?_ ?_
        rotate_left
        · intro w'
          go_simp
          with_reducible rfl
        rotate_left
        · simp only [Act.put, List.setIfInBounds_toArray, List.set_cons_zero, List.set_cons_succ, i64_w, i32_w]
          rfl
        refine done_ (done_of HT_.out (by kernel_rfl)) ?_
        try go_wp2
        have n0_ : Aside0 (((w199.setCell ⟨gb276, 0, none⟩ (.int .i64 t273)).setCell ⟨gb276, 1, none⟩ (.int .i64 t274)).heap[gb244]? = some (.cells #[.int .i64 t240, .int .i64 t241] 30 (0, 0))) := ⟨by (with_reducible repeat (first | refine blk_drewN ?_ _ | refine blk_drew ?_ | refine blk_alloc ?_ _)); refine blk_far ?_ NB244_276.out _; (with_reducible repeat (first | refine blk_drewN ?_ _ | refine blk_drew ?_ | refine blk_alloc ?_ _)); refine blk_far ?_ NB244_276.out _; (with_reducible repeat (first | refine blk_drewN ?_ _ | refine blk_drew ?_ | refine blk_alloc ?_ _)); exact BK244.out⟩
        have n1_ : Aside0 (((w199.setCell ⟨gb276, 0, none⟩ (.int .i64 t273)).setCell ⟨gb276, 1, none⟩ (.int .i64 t274)).heap[gb245]? = some (.cells #[.int .i64 t242, .int .i64 t243] 30 (0, 0))) := ⟨by (with_reducible repeat (first | refine blk_drewN ?_ _ | refine blk_drew ?_ | refine blk_alloc ?_ _)); refine blk_far ?_ NB245_276.out _; (with_reducible repeat (first | refine blk_drewN ?_ _ | refine blk_drew ?_ | refine blk_alloc ?_ _)); refine blk_far ?_ NB245_276.out _; (with_reducible repeat (first | refine blk_drewN ?_ _ | refine blk_drew ?_ | refine blk_alloc ?_ _)); exact BK245.out⟩
        have n2_ : Aside0 (((w199.setCell ⟨gb276, 0, none⟩ (.int .i64 t273)).setCell ⟨gb276, 1, none⟩ (.int .i64 t274)).heap[gb249]? = some (.cells #[.int .i64 t246, .int .i64 t247] 30 (0, 0))) := ⟨by (with_reducible repeat (first | refine blk_drewN ?_ _ | refine blk_drew ?_ | refine blk_alloc ?_ _)); refine blk_far ?_ NB249_276.out _; (with_reducible repeat (first | refine blk_drewN ?_ _ | refine blk_drew ?_ | refine blk_alloc ?_ _)); refine blk_far ?_ NB249_276.out _; (with_reducible repeat (first | refine blk_drewN ?_ _ | refine blk_drew ?_ | refine blk_alloc ?_ _)); exact BK249.out⟩
        have n3_ : Aside0 (((w199.setCell ⟨gb276, 0, none⟩ (.int .i64 t273)).setCell ⟨gb276, 1, none⟩ (.int .i64 t274)).heap[gb253]? = some (.cells #[.int .i64 t250, .int .i64 t251] 30 (0, 0))) := ⟨by (with_reducible repeat (first | refine blk_drewN ?_ _ | refine blk_drew ?_ | refine blk_alloc ?_ _)); refine blk_far ?_ NB253_276.out _; (with_reducible repeat (first | refine blk_drewN ?_ _ | refine blk_drew ?_ | refine blk_alloc ?_ _)); refine blk_far ?_ NB253_276.out _; (with_reducible repeat (first | refine blk_drewN ?_ _ | refine blk_drew ?_ | refine blk_alloc ?_ _)); exact BK253.out⟩
        have n4_ : Aside0 (((w199.setCell ⟨gb276, 0, none⟩ (.int .i64 t273)).setCell ⟨gb276, 1, none⟩ (.int .i64 t274)).heap[gb276]? = some (.cells #[.int .i64 t273, .int .i64 t274] 30 (0, 0))) := ⟨by (with_reducible repeat (first | refine blk_drewN ?_ _ | refine blk_drew ?_ | refine blk_alloc ?_ _)); refine blk_put (cs := #[.int .i64 t273, .int .i64 0]) ?_ 1 _ rfl; (with_reducible repeat (first | refine blk_drewN ?_ _ | refine blk_drew ?_ | refine blk_alloc ?_ _)); refine blk_put (cs := #[.int .i64 0, .int .i64 0]) ?_ 0 _ rfl; (with_reducible repeat (first | refine blk_drewN ?_ _ | refine blk_drew ?_ | refine blk_alloc ?_ _)); exact BK276.out⟩
        have n5_ : Aside0 (Below w.heap.size w ((w199.setCell ⟨gb276, 0, none⟩ (.int .i64 t273)).setCell ⟨gb276, 1, none⟩ (.int .i64 t274))) := ⟨by repeat (first | (with_reducible first | exact HB.out | apply below_alloc | apply pw_below_drewN | apply below_drew1 | refine below_set ?_ GE244.out | refine below_set ?_ GE245.out | refine below_set ?_ GE249.out | refine below_set ?_ GE253.out | refine below_set ?_ GE276.out) | exact HB.out)⟩
        (try clear BK244)
        (try clear BK245)
        (try clear BK249)
        (try clear BK253)
        (try clear BK276)
        (try clear HB)
        generalize ((w199.setCell ⟨gb276, 0, none⟩ (.int .i64 t273)).setCell ⟨gb276, 1, none⟩ (.int .i64 t274)) = w202 at n0_ n1_ n2_ n3_ n4_ n5_ ⊢
        have BK244 := n0_; have BK245 := n1_; have BK249 := n2_; have BK253 := n3_; have BK276 := n4_; have HB := n5_
        clear n0_ n1_ n2_ n3_ n4_ n5_
        have n0_ := Aside0.mk (blk_drew BK244.out)
        have n1_ := Aside0.mk (blk_drew BK245.out)
        have n2_ := Aside0.mk (blk_drew BK249.out)
        have n3_ := Aside0.mk (blk_drew BK253.out)
        have n4_ := Aside0.mk (blk_drew BK276.out)
        have n5_ := Aside0.mk (below_drew1 HB.out)
        clear BK244 BK245 BK249 BK253 BK276 HB
        have BK244 := n0_; have BK245 := n1_; have BK249 := n2_; have BK253 := n3_; have BK276 := n4_; have HB := n5_
        clear n0_ n1_ n2_ n3_ n4_ n5_
        refine start_ (n := 19) (S := fun w' => True) (ds := []) #[false, false, false, false, false, false, false, false, false, false, false, false, false, false, false, false, false, false, false] (by kernel_rfl) rfl rfl trivial (fun hHeld => ?_); refine with_tabW laws_FnSpanDivNone.tab10 laws_FnSpanDivNone.bits10 (fun HT_ HW_ => ?_)
        generalize w202.drew = w203 at BK244 BK245 BK249 BK253 BK276 HB hHeld ⊢
        refine pure_ (i := 0) (N := some 59) (v := ?_) (a' := ?_) #[true, false, false, false, false, false, false, false, false, false, false, false, false, false, false, false, false, false, false] rfl rfl (any_of HT_.out (by kernel_rfl)) (fun _ _ _ h => h) (Or.inl ⟨by rfl, ?_⟩) ?_ ?_
        rotate_left
        · intro w'
          go_simp
          with_reducible rfl
        rotate_left
        · simp only [Act.put, List.setIfInBounds_toArray, List.set_cons_zero, List.set_cons_succ, i64_w, i32_w]
          rfl
        refine pure_ (i := 1) (N := some 60) (v := ?_) (a' := ?_) #[true, true, false, false, false, false, false, false, false, false, false, false, false, false, false, false, false, false, false] rfl rfl (any_of HT_.out (by kernel_rfl)) (fun _ _ _ h => h) (Or.inl ⟨by rfl, ?_⟩) ?_ ?_
        rotate_left
        · intro w'
          go_simp
          with_reducible rfl
        rotate_left
        · simp only [Act.put, List.setIfInBounds_toArray, List.set_cons_zero, List.set_cons_succ, i64_w, i32_w]
          rfl
        refine pure_ (i := 2) (N := some 61) (v := undef) (a' := ?_) #[true, true, true, false, false, false, false, false, false, false, false, false, false, false, false, false, false, false, false] rfl rfl (any_of HT_.out (by kernel_rfl)) (fun _ _ _ h => h) (Or.inr ⟨by rfl, rfl⟩) ?_ ?_
        rotate_left
        · simp only [Act.put, List.setIfInBounds_toArray, List.set_cons_zero, List.set_cons_succ, i64_w, i32_w]
          rfl
        refine pure_ (i := 3) (N := some 62) (v := ?_) (a' := ?_) #[true, true, true, true, false, false, false, false, false, false, false, false, false, false, false, false, false, false, false] rfl rfl (any_of HT_.out (by kernel_rfl)) (fun _ _ _ h => h) (Or.inl ⟨by rfl, ?_⟩) ?_ ?_
        rotate_left
        · intro w'
          go_simp
          with_reducible rfl
        rotate_left
        · simp only [Act.put, List.setIfInBounds_toArray, List.set_cons_zero, List.set_cons_succ, i64_w, i32_w]
          rfl
        refine pure_ (i := 4) (N := some 63) (v := ?_) (a' := ?_) #[true, true, true, true, true, false, false, false, false, false, false, false, false, false, false, false, false, false, false] rfl rfl (any_of HT_.out (by kernel_rfl)) (fun _ _ _ h => h) (Or.inl ⟨by rfl, ?_⟩) ?_ ?_
        rotate_left
        · intro w'
          go_simp
          with_reducible rfl
        rotate_left
        · simp only [Act.put, List.setIfInBounds_toArray, List.set_cons_zero, List.set_cons_succ, i64_w, i32_w]
          rfl
        refine pure_ (i := 5) (N := some 64) (v := ?_) (a' := ?_) #[true, true, true, true, true, true, false, false, false, false, false, false, false, false, false, false, false, false, false] rfl rfl (any_of HT_.out (by kernel_rfl)) (fun _ _ _ h => h) (Or.inl ⟨by rfl, ?_⟩) ?_ ?_
        rotate_left
        · intro w'
          go_simp
          with_reducible rfl
        rotate_left
        · simp only [Act.put, List.setIfInBounds_toArray, List.set_cons_zero, List.set_cons_succ, i64_w, i32_w]
          rfl
        refine pure_ (i := 6) (N := some 65) (v := ?_) (a' := ?_) #[true, true, true, true, true, true, true, false, false, false, false, false, false, false, false, false, false, false, false] rfl rfl (any_of HT_.out (by kernel_rfl)) (fun _ _ _ h => h) (Or.inl ⟨by rfl, ?_⟩) ?_ ?_
        rotate_left
        · intro w'
          go_simp
          with_reducible rfl
        rotate_left
        · simp only [Act.put, List.setIfInBounds_toArray, List.set_cons_zero, List.set_cons_succ, i64_w, i32_w]
          rfl
        refine pure_ (i := 7) (N := some 66) (v := ?_) (a' := ?_) #[true, true, true, true, true, true, true, true, false, false, false, false, false, false, false, false, false, false, false] rfl rfl (any_of HT_.out (by kernel_rfl)) (fun _ _ _ h => h) (Or.inl ⟨by rfl, ?_⟩) ?_ ?_
        rotate_left
        · intro w'
          go_simp
          with_reducible rfl
        rotate_left
        · simp only [Act.put, List.setIfInBounds_toArray, List.set_cons_zero, List.set_cons_succ, i64_w, i32_w]
          rfl
        refine pure_ (i := 8) (N := some 67) (v := ?_) (a' := ?_) #[true, true, true, true, true, true, true, true, true, false, false, false, false, false, false, false, false, false, false] rfl rfl (any_of HT_.out (by kernel_rfl)) (fun _ _ _ h => h) (Or.inl ⟨by rfl, ?_⟩) ?_ ?_
        rotate_left
        · intro w'
          go_simp
          with_reducible rfl
        rotate_left
        · simp only [Act.put, List.setIfInBounds_toArray, List.set_cons_zero, List.set_cons_succ, i64_w, i32_w]
          rfl
        refine pure_ (i := 9) (N := some 68) (v := undef) (a' := ?_) #[true, true, true, true, true, true, true, true, true, true, false, false, false, false, false, false, false, false, false] rfl rfl (any_of HT_.out (by kernel_rfl)) (fun _ _ _ h => h) (Or.inr ⟨by rfl, rfl⟩) ?_ ?_
        rotate_left
        · simp only [Act.put, List.setIfInBounds_toArray, List.set_cons_zero, List.set_cons_succ, i64_w, i32_w]
          rfl
        refine pure_ (i := 10) (N := some 69) (v := undef) (a' := ?_) #[true, true, true, true, true, true, true, true, true, true, true, false, false, false, false, false, false, false, false] rfl rfl (any_of HT_.out (by kernel_rfl)) (fun _ _ _ h => h) (Or.inr ⟨by rfl, rfl⟩) ?_ ?_
        rotate_left
        · simp only [Act.put, List.setIfInBounds_toArray, List.set_cons_zero, List.set_cons_succ, i64_w, i32_w]
          rfl
        refine pure_ (i := 11) (N := some 70) (v := undef) (a' := ?_) #[true, true, true, true, true, true, true, true, true, true, true, true, false, false, false, false, false, false, false] rfl rfl (any_of HT_.out (by kernel_rfl)) (fun _ _ _ h => h) (Or.inr ⟨by rfl, rfl⟩) ?_ ?_
        rotate_left
        · simp only [Act.put, List.setIfInBounds_toArray, List.set_cons_zero, List.set_cons_succ, i64_w, i32_w]
          rfl
        refine pure_ (i := 12) (N := some 71) (v := undef) (a' := ?_) #[true, true, true, true, true, true, true, true, true, true, true, true, true, false, false, false, false, false, false] rfl rfl (any_of HT_.out (by kernel_rfl)) (fun _ _ _ h => h) (Or.inr ⟨by rfl, rfl⟩) ?_ ?_
        rotate_left
        · simp only [Act.put, List.setIfInBounds_toArray, List.set_cons_zero, List.set_cons_succ, i64_w, i32_w]
          rfl
        refine pure_ (i := 13) (N := some 72) (v := undef) (a' := ?_) #[true, true, true, true, true, true, true, true, true, true, true, true, true, true, false, false, false, false, false] rfl rfl (any_of HT_.out (by kernel_rfl)) (fun _ _ _ h => h) (Or.inr ⟨by rfl, rfl⟩) ?_ ?_
        rotate_left
        · simp only [Act.put, List.setIfInBounds_toArray, List.set_cons_zero, List.set_cons_succ, i64_w, i32_w]
          rfl
        refine pure_ (i := 14) (N := some 73) (v := undef) (a' := ?_) #[true, true, true, true, true, true, true, true, true, true, true, true, true, true, true, false, false, false, false] rfl rfl (any_of HT_.out (by kernel_rfl)) (fun _ _ _ h => h) (Or.inr ⟨by rfl, rfl⟩) ?_ ?_
        rotate_left
        · simp only [Act.put, List.setIfInBounds_toArray, List.set_cons_zero, List.set_cons_succ, i64_w, i32_w]
          rfl
        refine pure_ (i := 15) (N := some 74) (v := undef) (a' := ?_) #[true, true, true, true, true, true, true, true, true, true, true, true, true, true, true, true, false, false, false] rfl rfl (any_of HT_.out (by kernel_rfl)) (fun _ _ _ h => h) (Or.inr ⟨by rfl, rfl⟩) ?_ ?_
        rotate_left
        · simp only [Act.put, List.setIfInBounds_toArray, List.set_cons_zero, List.set_cons_succ, i64_w, i32_w]
          rfl
        refine pure_ (i := 16) (N := some 75) (v := ?_) (a' := ?_) #[true, true, true, true, true, true, true, true, true, true, true, true, true, true, true, true, true, false, false] rfl rfl (any_of HT_.out (by kernel_rfl)) (fun _ _ _ h => h) (Or.inl ⟨by rfl, ?_⟩) ?_ ?_
        rotate_left
        · intro w'
          go_simp
          with_reducible rfl
        rotate_left
        · simp only [Act.put, List.setIfInBounds_toArray, List.set_cons_zero, List.set_cons_succ, i64_w, i32_w]
          rfl
        refine pure_ (i := 17) (N := some 76) (v := ?_) (a' := ?_) #[true, true, true, true, true, true, true, true, true, true, true, true, true, true, true, true, true, true, false] rfl rfl (any_of HT_.out (by kernel_rfl)) (fun _ _ _ h => h) (Or.inl ⟨by rfl, ?_⟩) ?_ ?_
        rotate_left
        · intro w'
          go_simp
          with_reducible rfl
        rotate_left
        · simp only [Act.put, List.setIfInBounds_toArray, List.set_cons_zero, List.set_cons_succ, i64_w, i32_w]
          rfl
        refine pure_ (i := 18) (N := some 2) (v := ?_) (a' := ?_) #[true, true, true, true, true, true, true, true, true, true, true, true, true, true, true, true, true, true, true] rfl rfl (any_of HT_.out (by kernel_rfl)) (fun _ _ _ h => h) (Or.inl ⟨by rfl, ?_⟩) ?_ ?_
        rotate_left
        · intro w'
          go_simp
          with_reducible rfl
        rotate_left
        · simp only [Act.put, List.setIfInBounds_toArray, List.set_cons_zero, List.set_cons_succ, i64_w, i32_w]
          rfl
        refine done_ (done_of HT_.out (by kernel_rfl)) ?_
        try go_wp2
        go_ret
        exact ⟨by first | rfl | (simp [errW_none, errW_some] <;> rfl) | (simp [*, errW_none, errW_some] <;> rfl), by repeat (first | (with_reducible first | exact HB.out | apply below_alloc | apply pw_below_drewN | apply below_drew1 | refine below_set ?_ GE244.out | refine below_set ?_ GE245.out | refine below_set ?_ GE249.out | refine below_set ?_ GE253.out | refine below_set ?_ GE276.out) | exact HB.out)⟩
      subst c36
      have H1 : (if t242 ≤ 0 then ((impl_SpanNeg.f t240 t241).bind fun bt255 => ((impl_SpanDiv.f kj5 bt255.1 bt255.2 t242 t243).bind fun bt257 => (if t252 = true then (if t243 ≥ 0 then (some false) else (if bt257.2.2 = true then ((impl_SpanNeg.f t250 t251).bind fun bt261 => (some (bt257.1 == bt261.1 && (bt257.2.1 == bt261.2)))) else (some false))) else (some true)))) else ((impl_SpanNeg.f t240 t241).bind fun bt263 => ((impl_SpanDiv.f kj5 bt263.1 bt263.2 t242 t243).bind fun bt265 => (if t252 = true then (if bt265.2.2 = true then ((impl_SpanNeg.f t250 t251).bind fun bt269 => (some (bt265.1 == bt269.1 && (bt265.2.1 == bt269.2)))) else (some false)) else (some true))))) = some r := by rw [if_pos rfl] at H; exact H
      clear H
      have H := H1
      clear H1
      by_cases c37 : t242 ≤ 0
      case pos =>
        rw [if_pos c37] at H
        have c37b0 : decide (t242 ≤ 0) = true := decide_eq_true c37
        clear c37
        replace H := Option.bind_eq_some_iff.mp H
        obtain ⟨⟨t255, t256⟩, A380, H⟩ := H
        replace H : ((impl_SpanDiv.f kj5 t255 t256 t242 t243).bind fun bt257 => (if t252 = true then (if t243 ≥ 0 then (some false) else (if bt257.2.2 = true then ((impl_SpanNeg.f t250 t251).bind fun bt261 => (some (bt257.1 == bt261.1 && (bt257.2.1 == bt261.2)))) else (some false))) else (some true))) = some r := H
        have A38 := Aside0.mk A380
        clear A380
        replace H := Option.bind_eq_some_iff.mp H
        obtain ⟨⟨t257, t258, t259⟩, A390, H⟩ := H
        replace H : (if t252 = true then (if t243 ≥ 0 then (some false) else (if t259 = true then ((impl_SpanNeg.f t250 t251).bind fun bt261 => (some (t257 == bt261.1 && (t258 == bt261.2)))) else (some false))) else (some true)) = some r := H
        have A39 := Aside0.mk A390
        clear A390
        by_cases c40 : t252 = true
        case pos => exact absurd c40 (by have e0 := EQ1a.out; have e1 := EQ1b.out; have e2 := EQ1c.out; have e3 := EQS.out; (try subst e0); (try subst e1); (try subst e2); (try subst e3); first | (simp; done) | simp_all)
        replace c40 := Bool.eq_false_iff.mpr c40
        subst c40
        have H1 : (some true) = some r := by rw [if_neg (show ¬ (false = true) by decide)] at H; exact H
        clear H
        have H := H1
        clear H1
        obtain rfl := Option.some.inj H
        have hnb90 := NB245_244.out
        have hnc90 := NB244_245.out
        have hnb91 := NB245_249.out
        have hnc91 := NB249_245.out
        have hnb92 := NB245_253.out
        have hnc92 := NB253_245.out
        have hcz93_0 : wc.cell? ⟨gb245, 0, none⟩ = some (.int .i64 t242) := (blk_cell BK245.out 0).trans rfl
        have hcz93_1 : wc.cell? ⟨gb245, 1, none⟩ = some (.int .i64 t243) := (blk_cell BK245.out 1).trans rfl
        have hfz93_0 := blk_frozen BK245.out 0
        have hfz93_1 := blk_frozen BK245.out 1
        try go_wp2_with (first | ((with_reducible refine gate_callee (f := 28) rfl ?_); refine goesL_ (some 41) rfl rfl Try.func28 (by kernel_rfl) rfl #[.agg #[.int .i64 t242, .int .i64 t243]] rfl (by (try simp only [List.map_toArray, List.map_cons, List.map_nil]); first | done | rfl | (simp only [List.length_drop, List.length_take]; rfl)) ?_; (with_reducible refine (spec_SpanOk.calls t242 t243 true _ A35.out).mono ?_); rintro e w94 ⟨rfl, hb⟩; refine ⟨_, rfl, ?_⟩; have n0_ := Aside0.mk (blk_below (g := gb244) (o := .cells #[.int .i64 t240, .int .i64 t241] 30 (0, 0)) (by (with_reducible repeat (first | refine blk_drewN ?_ _ | refine blk_drew ?_ | refine blk_alloc ?_ _)); exact BK244.out) hb); have n1_ := Aside0.mk (blk_below (g := gb245) (o := .cells #[.int .i64 t242, .int .i64 t243] 30 (0, 0)) (by (with_reducible repeat (first | refine blk_drewN ?_ _ | refine blk_drew ?_ | refine blk_alloc ?_ _)); exact BK245.out) hb); have n2_ := Aside0.mk (blk_below (g := gb249) (o := .cells #[.int .i64 t246, .int .i64 t247] 30 (0, 0)) (by (with_reducible repeat (first | refine blk_drewN ?_ _ | refine blk_drew ?_ | refine blk_alloc ?_ _)); exact BK249.out) hb); have n3_ := Aside0.mk (blk_below (g := gb253) (o := .cells #[.int .i64 t250, .int .i64 t251] 30 (0, 0)) (by (with_reducible repeat (first | refine blk_drewN ?_ _ | refine blk_drew ?_ | refine blk_alloc ?_ _)); exact BK253.out) hb); have n4_ := Aside0.mk (below_step (by repeat (first | (with_reducible first | exact HB.out | apply below_alloc | apply pw_below_drewN | apply below_drew1 | refine below_set ?_ GE244.out | refine below_set ?_ GE245.out | refine below_set ?_ GE249.out | refine below_set ?_ GE253.out) | exact HB.out)) hb); clear BK244; clear BK245; clear BK249; clear BK253; clear HB; have BK244 := n0_; have BK245 := n1_; have BK249 := n2_; have BK253 := n3_; have HB := n4_; clear n0_ n1_ n2_ n3_ n4_; (try clear hb); (try clear hb2); (try clear hk); (try clear hi); have hcz95_0 : w94.cell? ⟨gb245, 0, none⟩ = some (.int .i64 t242) := (blk_cell BK245.out 0).trans rfl; have hcz95_1 : w94.cell? ⟨gb245, 1, none⟩ = some (.int .i64 t243) := (blk_cell BK245.out 1).trans rfl; have hfz95_0 := blk_frozen BK245.out 0; have hfz95_1 := blk_frozen BK245.out 1))
        have n0_ := Aside0.mk (blk_drew BK244.out)
        have n1_ := Aside0.mk (blk_drew BK245.out)
        have n2_ := Aside0.mk (blk_drew BK249.out)
        have n3_ := Aside0.mk (blk_drew BK253.out)
        have n4_ := Aside0.mk (below_drew1 HB.out)
        clear BK244 BK245 BK249 BK253 HB
        have BK244 := n0_; have BK245 := n1_; have BK249 := n2_; have BK253 := n3_; have HB := n4_
        clear n0_ n1_ n2_ n3_ n4_
        refine start_ (n := 10) (S := fun w' => w'.cell? ⟨gb244, 0, none⟩ = some (.int .i64 t240) ∧ w'.cell? ⟨gb244, 1, none⟩ = some (.int .i64 t241) ∧ w'.cell? ⟨gb245, 0, none⟩ = some (.int .i64 t242) ∧ w'.cell? ⟨gb245, 1, none⟩ = some (.int .i64 t243)) (ds := []) #[false, false, false, false, false, false, false, false, false, false] (by kernel_rfl) rfl rfl ⟨(blk_cell BK244.out 0).trans rfl, (blk_cell BK244.out 1).trans rfl, (blk_cell BK245.out 0).trans rfl, (blk_cell BK245.out 1).trans rfl⟩ (fun hHeld => ?_); refine with_tabW laws_FnSpanDivNone.tab9 laws_FnSpanDivNone.bits9 (fun HT_ HW_ => ?_)
        generalize w94.drew = w96 at BK244 BK245 BK249 BK253 HB hHeld ⊢
        refine take_ (i := 0) (N := some 53) (v := ?_) (a' := ?_) #[true, false, false, false, false, false, false, false, false, false] rfl rfl (take_ofW HT_.out HW_.out (by kernel_rfl)) (fun _ _ _ h => h) (Or.inl ⟨by rfl, ?_⟩) hHeld ?_ ?_
        rotate_left
        · rintro w' ⟨s0, s1, s2, s3⟩
          go_simp
          with_reducible rfl
        rotate_left
        · simp only [Act.put, List.setIfInBounds_toArray, List.set_cons_zero, List.set_cons_succ, i64_w, i32_w]
          rfl
        refine take_ (i := 2) (N := some 55) (v := ?_) (a' := ?_) #[true, false, true, false, false, false, false, false, false, false] rfl rfl (take_ofW HT_.out HW_.out (by kernel_rfl)) (fun _ _ _ h => h) (Or.inl ⟨by rfl, ?_⟩) hHeld ?_ ?_
        rotate_left
        · rintro w' ⟨s0, s1, s2, s3⟩
          go_simp
          with_reducible rfl
        rotate_left
        · simp only [Act.put, List.setIfInBounds_toArray, List.set_cons_zero, List.set_cons_succ, i64_w, i32_w]
          rfl
        refine join_ (σ := Nat) 2 #[true, true, true, true, true, true, true, true, false, false] (fun s_ => [(54, .agg #[.int .i64 t255, .int .i64 t256]), (56, .tuple #[.agg #[.int .i64 t257, .int .i64 t258], .bool t259]), (10, .pointer (some ⟨s_, 0, none⟩)), (52, .tuple #[.agg #[.int .i64 t257, .int .i64 t258], .bool t259]), (57, .agg #[.int .i64 t257, .int .i64 t258]), (58, .bool t259)]) (fun s_ w' => (w'.cell? ⟨gb244, 0, none⟩ = some (.int .i64 t240) ∧ w'.cell? ⟨gb244, 1, none⟩ = some (.int .i64 t241) ∧ w'.cell? ⟨gb245, 0, none⟩ = some (.int .i64 t242) ∧ w'.cell? ⟨gb245, 1, none⟩ = some (.int .i64 t243)) ∧ (w'.heap[gb244]? = some (.cells #[.int .i64 t240, .int .i64 t241] 30 (0, 0))) ∧ (w'.heap[gb245]? = some (.cells #[.int .i64 t242, .int .i64 t243] 30 (0, 0))) ∧ (w'.heap[gb249]? = some (.cells #[.int .i64 t246, .int .i64 t247] 30 (0, 0))) ∧ (w'.heap[gb253]? = some (.cells #[.int .i64 t250, .int .i64 t251] 30 (0, 0))) ∧ (w'.heap[s_]? = some (.cells #[.int .i64 0, .int .i64 0] 30 (0, 0))) ∧ (w.heap.size ≤ s_) ∧ (w.heap.size ≤ s_) ∧ (gb244 ≠ s_) ∧ (s_ ≠ gb244) ∧ (gb245 ≠ s_) ∧ (s_ ≠ gb245) ∧ (gb249 ≠ s_) ∧ (s_ ≠ gb249) ∧ (gb253 ≠ s_) ∧ (s_ ≠ gb253) ∧ (Below w.heap.size w w')) ?_ ?_
        rotate_left
        · intro hCont
          refine two_ (i := 1) (j := 7) (Ni := some 54) (Nj := some 10) #[true, true, true, false, false, false, false, false, false, false] #[true, false, true, false, false, false, false, true, false, false] rfl rfl rfl rfl (two_of HT_.out (by kernel_rfl)) (by decide) (by decide) (fun K hK => ?_) (fun K hK => ?_)
          · skip
            refine goes_ Try.func29 (by kernel_rfl) rfl #[.agg #[.int .i64 t240, .int .i64 t241]] (by rfl) rfl rfl (by (try simp only [List.map_toArray, List.map_cons, List.map_nil]); first | done | rfl | (simp only [List.length_drop, List.length_take]; rfl)) ?_
            with_reducible refine (impl_SpanNeg.calls t240 t241 t255 t256 _ A38.out).mono ?_
            rintro e w97 ⟨rfl, hb⟩
            refine ⟨_, rfl, ?_⟩
            have n0_ := Aside0.mk (blk_below (g := gb244) (o := .cells #[.int .i64 t240, .int .i64 t241] 30 (0, 0)) BK244.out hb)
            have n1_ := Aside0.mk (blk_below (g := gb245) (o := .cells #[.int .i64 t242, .int .i64 t243] 30 (0, 0)) BK245.out hb)
            have n2_ := Aside0.mk (blk_below (g := gb249) (o := .cells #[.int .i64 t246, .int .i64 t247] 30 (0, 0)) BK249.out hb)
            have n3_ := Aside0.mk (blk_below (g := gb253) (o := .cells #[.int .i64 t250, .int .i64 t251] 30 (0, 0)) BK253.out hb)
            have n4_ := Aside0.mk (below_step HB.out hb)
            clear BK244 BK245 BK249 BK253 HB
            have BK244 := n0_; have BK245 := n1_; have BK249 := n2_; have BK253 := n3_; have HB := n4_
            clear n0_ n1_ n2_ n3_ n4_
            (try clear hb)
            (try clear hb2)
            (try clear hk)
            (try clear hi)
            refine hK.out _ _ ⟨(blk_cell BK244.out 0).trans rfl, (blk_cell BK244.out 1).trans rfl, (blk_cell BK245.out 0).trans rfl, (blk_cell BK245.out 1).trans rfl⟩ (fun hHeld => ?_)
            clear hK K
            refine norm_ (a' := ?_) ?_ ?_
            rotate_left
            · show Act.put _ (some 54) _ = _
              simp only [Act.put, List.setIfInBounds_toArray, List.set_cons_zero, List.set_cons_succ, i64_w, i32_w]
              rfl
            refine two_ (i := 3) (j := 7) (Ni := some 56) (Nj := some 10) #[true, true, true, true, false, false, false, false, false, false] #[true, true, true, false, false, false, false, true, false, false] rfl rfl rfl rfl (two_of HT_.out (by kernel_rfl)) (by decide) (by decide) (fun K hK => ?_) (fun K hK => ?_)
            · skip
              refine goes_ Try.func27 (by kernel_rfl) rfl #[.agg #[.int .i64 t255, .int .i64 t256], .agg #[.int .i64 t242, .int .i64 t243]] (by rfl) rfl rfl (by (try simp only [List.map_toArray, List.map_cons, List.map_nil]); first | done | rfl | (simp only [List.length_drop, List.length_take]; rfl)) ?_
              with_reducible refine (impl_SpanDiv.calls kj5 t255 t256 t242 t243 t257 t258 t259 _ A39.out).mono ?_
              rintro e w98 ⟨rfl, hb⟩
              refine ⟨_, rfl, ?_⟩
              have n0_ := Aside0.mk (blk_below (g := gb244) (o := .cells #[.int .i64 t240, .int .i64 t241] 30 (0, 0)) BK244.out hb)
              have n1_ := Aside0.mk (blk_below (g := gb245) (o := .cells #[.int .i64 t242, .int .i64 t243] 30 (0, 0)) BK245.out hb)
              have n2_ := Aside0.mk (blk_below (g := gb249) (o := .cells #[.int .i64 t246, .int .i64 t247] 30 (0, 0)) BK249.out hb)
              have n3_ := Aside0.mk (blk_below (g := gb253) (o := .cells #[.int .i64 t250, .int .i64 t251] 30 (0, 0)) BK253.out hb)
              have n4_ := Aside0.mk (below_step HB.out hb)
              clear BK244 BK245 BK249 BK253 HB
              have BK244 := n0_; have BK245 := n1_; have BK249 := n2_; have BK253 := n3_; have HB := n4_
              clear n0_ n1_ n2_ n3_ n4_
              (try clear hb)
              (try clear hb2)
              (try clear hk)
              (try clear hi)
              refine hK.out _ _ ⟨(blk_cell BK244.out 0).trans rfl, (blk_cell BK244.out 1).trans rfl, (blk_cell BK245.out 0).trans rfl, (blk_cell BK245.out 1).trans rfl⟩ (fun hHeld => ?_)
              clear hK K
              refine norm_ (a' := ?_) ?_ ?_
              rotate_left
              · show Act.put _ (some 56) _ = _
                simp only [Act.put, List.setIfInBounds_toArray, List.set_cons_zero, List.set_cons_succ, i64_w, i32_w]
                rfl
              refine pure_ (i := 4) (N := some 52) (v := ?_) (a' := ?_) #[true, true, true, true, true, false, false, false, false, false] rfl rfl (any_of HT_.out (by kernel_rfl)) (fun _ _ _ h => h) (Or.inl ⟨by rfl, ?_⟩) ?_ ?_
              rotate_left
              · intro w'
                go_simp
                with_reducible rfl
              rotate_left
              · simp only [Act.put, List.setIfInBounds_toArray, List.set_cons_zero, List.set_cons_succ, i64_w, i32_w]
                rfl
              refine pure_ (i := 5) (N := some 57) (v := ?_) (a' := ?_) #[true, true, true, true, true, true, false, false, false, false] rfl rfl (any_of HT_.out (by kernel_rfl)) (fun _ _ _ h => h) (Or.inl ⟨by rfl, ?_⟩) ?_ ?_
              rotate_left
              · intro w'
                go_simp
                with_reducible rfl
              rotate_left
              · simp only [Act.put, List.setIfInBounds_toArray, List.set_cons_zero, List.set_cons_succ, i64_w, i32_w]
                rfl
              refine pure_ (i := 6) (N := some 58) (v := ?_) (a' := ?_) #[true, true, true, true, true, true, true, false, false, false] rfl rfl (any_of HT_.out (by kernel_rfl)) (fun _ _ _ h => h) (Or.inl ⟨by rfl, ?_⟩) ?_ ?_
              rotate_left
              · intro w'
                go_simp
                with_reducible rfl
              rotate_left
              · simp only [Act.put, List.setIfInBounds_toArray, List.set_cons_zero, List.set_cons_succ, i64_w, i32_w]
                rfl
              refine one_ (i := 7) (N := some 10) #[true, true, true, true, true, true, true, true, false, false] rfl rfl (one_of HT_.out (by kernel_rfl)) (by decide) (fun K hK => ?_)
              refine box_step ?hg (N := 10) ?hd (cs := #[.int .i64 0, .int .i64 0]) (t := 30) ?hr ?_; (case hd => rfl); (case hg => rfl); (case hr => first | (go_simp; done) | (go_simp; rfl))
              intro gb260 hg w99 hbox hb
              have n0_ := Aside0.mk (blk_below (g := gb244) (o := .cells #[.int .i64 t240, .int .i64 t241] 30 (0, 0)) BK244.out hb)
              have n1_ := Aside0.mk (blk_below (g := gb245) (o := .cells #[.int .i64 t242, .int .i64 t243] 30 (0, 0)) BK245.out hb)
              have n2_ := Aside0.mk (blk_below (g := gb249) (o := .cells #[.int .i64 t246, .int .i64 t247] 30 (0, 0)) BK249.out hb)
              have n3_ := Aside0.mk (blk_below (g := gb253) (o := .cells #[.int .i64 t250, .int .i64 t251] 30 (0, 0)) BK253.out hb)
              have n4_ := Aside0.mk (below_step HB.out hb)
              have n5_ := Aside0.mk (hbox)
              have n6_ := Aside0.mk ((by rw [hg]; exact (below_size HB.out) : w.heap.size ≤ gb260))
              have n7_ := Aside0.mk ((by rw [hg]; exact (below_size HB.out) : w.heap.size ≤ gb260))
              have n8_ := Aside0.mk ((by rw [hg]; exact Nat.ne_of_lt (blk_lt (g := gb244) (o := .cells #[.int .i64 t240, .int .i64 t241] 30 (0, 0)) BK244.out) : gb244 ≠ gb260))
              have n9_ := Aside0.mk ((by rw [hg]; exact Nat.ne_of_gt (blk_lt (g := gb244) (o := .cells #[.int .i64 t240, .int .i64 t241] 30 (0, 0)) BK244.out) : gb260 ≠ gb244))
              have n10_ := Aside0.mk ((by rw [hg]; exact Nat.ne_of_lt (blk_lt (g := gb245) (o := .cells #[.int .i64 t242, .int .i64 t243] 30 (0, 0)) BK245.out) : gb245 ≠ gb260))
              have n11_ := Aside0.mk ((by rw [hg]; exact Nat.ne_of_gt (blk_lt (g := gb245) (o := .cells #[.int .i64 t242, .int .i64 t243] 30 (0, 0)) BK245.out) : gb260 ≠ gb245))
              have n12_ := Aside0.mk ((by rw [hg]; exact Nat.ne_of_lt (blk_lt (g := gb249) (o := .cells #[.int .i64 t246, .int .i64 t247] 30 (0, 0)) BK249.out) : gb249 ≠ gb260))
              have n13_ := Aside0.mk ((by rw [hg]; exact Nat.ne_of_gt (blk_lt (g := gb249) (o := .cells #[.int .i64 t246, .int .i64 t247] 30 (0, 0)) BK249.out) : gb260 ≠ gb249))
              have n14_ := Aside0.mk ((by rw [hg]; exact Nat.ne_of_lt (blk_lt (g := gb253) (o := .cells #[.int .i64 t250, .int .i64 t251] 30 (0, 0)) BK253.out) : gb253 ≠ gb260))
              have n15_ := Aside0.mk ((by rw [hg]; exact Nat.ne_of_gt (blk_lt (g := gb253) (o := .cells #[.int .i64 t250, .int .i64 t251] 30 (0, 0)) BK253.out) : gb260 ≠ gb253))
              clear BK244 BK245 BK249 BK253 HB
              have BK244 := n0_; have BK245 := n1_; have BK249 := n2_; have BK253 := n3_; have HB := n4_; have BK260 := n5_; have GW260 := n6_; have GE260 := n7_; have NB244_260 := n8_; have NB260_244 := n9_; have NB245_260 := n10_; have NB260_245 := n11_; have NB249_260 := n12_; have NB260_249 := n13_; have NB253_260 := n14_; have NB260_253 := n15_
              clear n0_ n1_ n2_ n3_ n4_ n5_ n6_ n7_ n8_ n9_ n10_ n11_ n12_ n13_ n14_ n15_
              clear hb hbox hg
              refine hK.out _ _ ⟨(blk_cell BK244.out 0).trans rfl, (blk_cell BK244.out 1).trans rfl, (blk_cell BK245.out 0).trans rfl, (blk_cell BK245.out 1).trans rfl⟩ (fun hHeld => ?_)
              clear hK K
              refine norm_ (a' := ?_) ?_ ?_
              rotate_left
              · show Act.put _ (some 10) _ = _
                simp only [Act.put, List.setIfInBounds_toArray, List.set_cons_zero, List.set_cons_succ, i64_w, i32_w]
                rfl
              exact norm_ (by simp only [putAll, Act.put, List.setIfInBounds_toArray, List.set_cons_zero, List.set_cons_succ]) (hCont (gb260) _ ⟨hHeld, BK244.out, BK245.out, BK249.out, BK253.out, BK260.out, GW260.out, GE260.out, NB244_260.out, NB260_244.out, NB245_260.out, NB260_245.out, NB249_260.out, NB260_249.out, NB253_260.out, NB260_253.out, HB.out⟩)
            · skip
              refine box_step ?hg (N := 10) ?hd (cs := #[.int .i64 0, .int .i64 0]) (t := 30) ?hr ?_; (case hd => rfl); (case hg => rfl); (case hr => first | (go_simp; done) | (go_simp; rfl))
              intro gb260 hg w98 hbox hb
              have n0_ := Aside0.mk (blk_below (g := gb244) (o := .cells #[.int .i64 t240, .int .i64 t241] 30 (0, 0)) BK244.out hb)
              have n1_ := Aside0.mk (blk_below (g := gb245) (o := .cells #[.int .i64 t242, .int .i64 t243] 30 (0, 0)) BK245.out hb)
              have n2_ := Aside0.mk (blk_below (g := gb249) (o := .cells #[.int .i64 t246, .int .i64 t247] 30 (0, 0)) BK249.out hb)
              have n3_ := Aside0.mk (blk_below (g := gb253) (o := .cells #[.int .i64 t250, .int .i64 t251] 30 (0, 0)) BK253.out hb)
              have n4_ := Aside0.mk (below_step HB.out hb)
              have n5_ := Aside0.mk (hbox)
              have n6_ := Aside0.mk ((by rw [hg]; exact (below_size HB.out) : w.heap.size ≤ gb260))
              have n7_ := Aside0.mk ((by rw [hg]; exact (below_size HB.out) : w.heap.size ≤ gb260))
              have n8_ := Aside0.mk ((by rw [hg]; exact Nat.ne_of_lt (blk_lt (g := gb244) (o := .cells #[.int .i64 t240, .int .i64 t241] 30 (0, 0)) BK244.out) : gb244 ≠ gb260))
              have n9_ := Aside0.mk ((by rw [hg]; exact Nat.ne_of_gt (blk_lt (g := gb244) (o := .cells #[.int .i64 t240, .int .i64 t241] 30 (0, 0)) BK244.out) : gb260 ≠ gb244))
              have n10_ := Aside0.mk ((by rw [hg]; exact Nat.ne_of_lt (blk_lt (g := gb245) (o := .cells #[.int .i64 t242, .int .i64 t243] 30 (0, 0)) BK245.out) : gb245 ≠ gb260))
              have n11_ := Aside0.mk ((by rw [hg]; exact Nat.ne_of_gt (blk_lt (g := gb245) (o := .cells #[.int .i64 t242, .int .i64 t243] 30 (0, 0)) BK245.out) : gb260 ≠ gb245))
              have n12_ := Aside0.mk ((by rw [hg]; exact Nat.ne_of_lt (blk_lt (g := gb249) (o := .cells #[.int .i64 t246, .int .i64 t247] 30 (0, 0)) BK249.out) : gb249 ≠ gb260))
              have n13_ := Aside0.mk ((by rw [hg]; exact Nat.ne_of_gt (blk_lt (g := gb249) (o := .cells #[.int .i64 t246, .int .i64 t247] 30 (0, 0)) BK249.out) : gb260 ≠ gb249))
              have n14_ := Aside0.mk ((by rw [hg]; exact Nat.ne_of_lt (blk_lt (g := gb253) (o := .cells #[.int .i64 t250, .int .i64 t251] 30 (0, 0)) BK253.out) : gb253 ≠ gb260))
              have n15_ := Aside0.mk ((by rw [hg]; exact Nat.ne_of_gt (blk_lt (g := gb253) (o := .cells #[.int .i64 t250, .int .i64 t251] 30 (0, 0)) BK253.out) : gb260 ≠ gb253))
              clear BK244 BK245 BK249 BK253 HB
              have BK244 := n0_; have BK245 := n1_; have BK249 := n2_; have BK253 := n3_; have HB := n4_; have BK260 := n5_; have GW260 := n6_; have GE260 := n7_; have NB244_260 := n8_; have NB260_244 := n9_; have NB245_260 := n10_; have NB260_245 := n11_; have NB249_260 := n12_; have NB260_249 := n13_; have NB253_260 := n14_; have NB260_253 := n15_
              clear n0_ n1_ n2_ n3_ n4_ n5_ n6_ n7_ n8_ n9_ n10_ n11_ n12_ n13_ n14_ n15_
              clear hb hbox hg
              refine hK.out _ _ ⟨(blk_cell BK244.out 0).trans rfl, (blk_cell BK244.out 1).trans rfl, (blk_cell BK245.out 0).trans rfl, (blk_cell BK245.out 1).trans rfl⟩ (fun hHeld => ?_)
              clear hK K
              refine norm_ (a' := ?_) ?_ ?_
              rotate_left
              · show Act.put _ (some 10) _ = _
                simp only [Act.put, List.setIfInBounds_toArray, List.set_cons_zero, List.set_cons_succ, i64_w, i32_w]
                rfl
              refine one_ (i := 3) (N := some 56) #[true, true, true, true, false, false, false, true, false, false] rfl rfl (one_of HT_.out (by kernel_rfl)) (by decide) (fun K hK => ?_)
              refine goes_ Try.func27 (by kernel_rfl) rfl #[.agg #[.int .i64 t255, .int .i64 t256], .agg #[.int .i64 t242, .int .i64 t243]] (by rfl) rfl rfl (by (try simp only [List.map_toArray, List.map_cons, List.map_nil]); first | done | rfl | (simp only [List.length_drop, List.length_take]; rfl)) ?_
              with_reducible refine (impl_SpanDiv.calls kj5 t255 t256 t242 t243 t257 t258 t259 _ A39.out).mono ?_
              rintro e w99 ⟨rfl, hb⟩
              refine ⟨_, rfl, ?_⟩
              have n0_ := Aside0.mk (blk_below (g := gb244) (o := .cells #[.int .i64 t240, .int .i64 t241] 30 (0, 0)) BK244.out hb)
              have n1_ := Aside0.mk (blk_below (g := gb245) (o := .cells #[.int .i64 t242, .int .i64 t243] 30 (0, 0)) BK245.out hb)
              have n2_ := Aside0.mk (blk_below (g := gb249) (o := .cells #[.int .i64 t246, .int .i64 t247] 30 (0, 0)) BK249.out hb)
              have n3_ := Aside0.mk (blk_below (g := gb253) (o := .cells #[.int .i64 t250, .int .i64 t251] 30 (0, 0)) BK253.out hb)
              have n4_ := Aside0.mk (blk_below (g := gb260) (o := .cells #[.int .i64 0, .int .i64 0] 30 (0, 0)) BK260.out hb)
              have n5_ := Aside0.mk (below_step HB.out hb)
              clear BK244 BK245 BK249 BK253 BK260 HB
              have BK244 := n0_; have BK245 := n1_; have BK249 := n2_; have BK253 := n3_; have BK260 := n4_; have HB := n5_
              clear n0_ n1_ n2_ n3_ n4_ n5_
              (try clear hb)
              (try clear hb2)
              (try clear hk)
              (try clear hi)
              refine hK.out _ _ ⟨(blk_cell BK244.out 0).trans rfl, (blk_cell BK244.out 1).trans rfl, (blk_cell BK245.out 0).trans rfl, (blk_cell BK245.out 1).trans rfl⟩ (fun hHeld => ?_)
              clear hK K
              refine norm_ (a' := ?_) ?_ ?_
              rotate_left
              · show Act.put _ (some 56) _ = _
                simp only [Act.put, List.setIfInBounds_toArray, List.set_cons_zero, List.set_cons_succ, i64_w, i32_w]
                rfl
              refine pure_ (i := 4) (N := some 52) (v := ?_) (a' := ?_) #[true, true, true, true, true, false, false, true, false, false] rfl rfl (any_of HT_.out (by kernel_rfl)) (fun _ _ _ h => h) (Or.inl ⟨by rfl, ?_⟩) ?_ ?_
              rotate_left
              · intro w'
                go_simp
                with_reducible rfl
              rotate_left
              · simp only [Act.put, List.setIfInBounds_toArray, List.set_cons_zero, List.set_cons_succ, i64_w, i32_w]
                rfl
              refine pure_ (i := 5) (N := some 57) (v := ?_) (a' := ?_) #[true, true, true, true, true, true, false, true, false, false] rfl rfl (any_of HT_.out (by kernel_rfl)) (fun _ _ _ h => h) (Or.inl ⟨by rfl, ?_⟩) ?_ ?_
              rotate_left
              · intro w'
                go_simp
                with_reducible rfl
              rotate_left
              · simp only [Act.put, List.setIfInBounds_toArray, List.set_cons_zero, List.set_cons_succ, i64_w, i32_w]
                rfl
              refine pure_ (i := 6) (N := some 58) (v := ?_) (a' := ?_) #[true, true, true, true, true, true, true, true, false, false] rfl rfl (any_of HT_.out (by kernel_rfl)) (fun _ _ _ h => h) (Or.inl ⟨by rfl, ?_⟩) ?_ ?_
              rotate_left
              · intro w'
                go_simp
                with_reducible rfl
              rotate_left
              · simp only [Act.put, List.setIfInBounds_toArray, List.set_cons_zero, List.set_cons_succ, i64_w, i32_w]
                rfl
              exact norm_ (by simp only [putAll, Act.put, List.setIfInBounds_toArray, List.set_cons_zero, List.set_cons_succ]) (hCont (gb260) _ ⟨hHeld, BK244.out, BK245.out, BK249.out, BK253.out, BK260.out, GW260.out, GE260.out, NB244_260.out, NB260_244.out, NB245_260.out, NB260_245.out, NB249_260.out, NB260_249.out, NB253_260.out, NB260_253.out, HB.out⟩)
          · skip
            refine box_step ?hg (N := 10) ?hd (cs := #[.int .i64 0, .int .i64 0]) (t := 30) ?hr ?_; (case hd => rfl); (case hg => rfl); (case hr => first | (go_simp; done) | (go_simp; rfl))
            intro gb260 hg w97 hbox hb
            have n0_ := Aside0.mk (blk_below (g := gb244) (o := .cells #[.int .i64 t240, .int .i64 t241] 30 (0, 0)) BK244.out hb)
            have n1_ := Aside0.mk (blk_below (g := gb245) (o := .cells #[.int .i64 t242, .int .i64 t243] 30 (0, 0)) BK245.out hb)
            have n2_ := Aside0.mk (blk_below (g := gb249) (o := .cells #[.int .i64 t246, .int .i64 t247] 30 (0, 0)) BK249.out hb)
            have n3_ := Aside0.mk (blk_below (g := gb253) (o := .cells #[.int .i64 t250, .int .i64 t251] 30 (0, 0)) BK253.out hb)
            have n4_ := Aside0.mk (below_step HB.out hb)
            have n5_ := Aside0.mk (hbox)
            have n6_ := Aside0.mk ((by rw [hg]; exact (below_size HB.out) : w.heap.size ≤ gb260))
            have n7_ := Aside0.mk ((by rw [hg]; exact (below_size HB.out) : w.heap.size ≤ gb260))
            have n8_ := Aside0.mk ((by rw [hg]; exact Nat.ne_of_lt (blk_lt (g := gb244) (o := .cells #[.int .i64 t240, .int .i64 t241] 30 (0, 0)) BK244.out) : gb244 ≠ gb260))
            have n9_ := Aside0.mk ((by rw [hg]; exact Nat.ne_of_gt (blk_lt (g := gb244) (o := .cells #[.int .i64 t240, .int .i64 t241] 30 (0, 0)) BK244.out) : gb260 ≠ gb244))
            have n10_ := Aside0.mk ((by rw [hg]; exact Nat.ne_of_lt (blk_lt (g := gb245) (o := .cells #[.int .i64 t242, .int .i64 t243] 30 (0, 0)) BK245.out) : gb245 ≠ gb260))
            have n11_ := Aside0.mk ((by rw [hg]; exact Nat.ne_of_gt (blk_lt (g := gb245) (o := .cells #[.int .i64 t242, .int .i64 t243] 30 (0, 0)) BK245.out) : gb260 ≠ gb245))
            have n12_ := Aside0.mk ((by rw [hg]; exact Nat.ne_of_lt (blk_lt (g := gb249) (o := .cells #[.int .i64 t246, .int .i64 t247] 30 (0, 0)) BK249.out) : gb249 ≠ gb260))
            have n13_ := Aside0.mk ((by rw [hg]; exact Nat.ne_of_gt (blk_lt (g := gb249) (o := .cells #[.int .i64 t246, .int .i64 t247] 30 (0, 0)) BK249.out) : gb260 ≠ gb249))
            have n14_ := Aside0.mk ((by rw [hg]; exact Nat.ne_of_lt (blk_lt (g := gb253) (o := .cells #[.int .i64 t250, .int .i64 t251] 30 (0, 0)) BK253.out) : gb253 ≠ gb260))
            have n15_ := Aside0.mk ((by rw [hg]; exact Nat.ne_of_gt (blk_lt (g := gb253) (o := .cells #[.int .i64 t250, .int .i64 t251] 30 (0, 0)) BK253.out) : gb260 ≠ gb253))
            clear BK244 BK245 BK249 BK253 HB
            have BK244 := n0_; have BK245 := n1_; have BK249 := n2_; have BK253 := n3_; have HB := n4_; have BK260 := n5_; have GW260 := n6_; have GE260 := n7_; have NB244_260 := n8_; have NB260_244 := n9_; have NB245_260 := n10_; have NB260_245 := n11_; have NB249_260 := n12_; have NB260_249 := n13_; have NB253_260 := n14_; have NB260_253 := n15_
            clear n0_ n1_ n2_ n3_ n4_ n5_ n6_ n7_ n8_ n9_ n10_ n11_ n12_ n13_ n14_ n15_
            clear hb hbox hg
            refine hK.out _ _ ⟨(blk_cell BK244.out 0).trans rfl, (blk_cell BK244.out 1).trans rfl, (blk_cell BK245.out 0).trans rfl, (blk_cell BK245.out 1).trans rfl⟩ (fun hHeld => ?_)
            clear hK K
            refine norm_ (a' := ?_) ?_ ?_
            rotate_left
            · show Act.put _ (some 10) _ = _
              simp only [Act.put, List.setIfInBounds_toArray, List.set_cons_zero, List.set_cons_succ, i64_w, i32_w]
              rfl
            refine one_ (i := 1) (N := some 54) #[true, true, true, false, false, false, false, true, false, false] rfl rfl (one_of HT_.out (by kernel_rfl)) (by decide) (fun K hK => ?_)
            refine goes_ Try.func29 (by kernel_rfl) rfl #[.agg #[.int .i64 t240, .int .i64 t241]] (by rfl) rfl rfl (by (try simp only [List.map_toArray, List.map_cons, List.map_nil]); first | done | rfl | (simp only [List.length_drop, List.length_take]; rfl)) ?_
            with_reducible refine (impl_SpanNeg.calls t240 t241 t255 t256 _ A38.out).mono ?_
            rintro e w98 ⟨rfl, hb⟩
            refine ⟨_, rfl, ?_⟩
            have n0_ := Aside0.mk (blk_below (g := gb244) (o := .cells #[.int .i64 t240, .int .i64 t241] 30 (0, 0)) BK244.out hb)
            have n1_ := Aside0.mk (blk_below (g := gb245) (o := .cells #[.int .i64 t242, .int .i64 t243] 30 (0, 0)) BK245.out hb)
            have n2_ := Aside0.mk (blk_below (g := gb249) (o := .cells #[.int .i64 t246, .int .i64 t247] 30 (0, 0)) BK249.out hb)
            have n3_ := Aside0.mk (blk_below (g := gb253) (o := .cells #[.int .i64 t250, .int .i64 t251] 30 (0, 0)) BK253.out hb)
            have n4_ := Aside0.mk (blk_below (g := gb260) (o := .cells #[.int .i64 0, .int .i64 0] 30 (0, 0)) BK260.out hb)
            have n5_ := Aside0.mk (below_step HB.out hb)
            clear BK244 BK245 BK249 BK253 BK260 HB
            have BK244 := n0_; have BK245 := n1_; have BK249 := n2_; have BK253 := n3_; have BK260 := n4_; have HB := n5_
            clear n0_ n1_ n2_ n3_ n4_ n5_
            (try clear hb)
            (try clear hb2)
            (try clear hk)
            (try clear hi)
            refine hK.out _ _ ⟨(blk_cell BK244.out 0).trans rfl, (blk_cell BK244.out 1).trans rfl, (blk_cell BK245.out 0).trans rfl, (blk_cell BK245.out 1).trans rfl⟩ (fun hHeld => ?_)
            clear hK K
            refine norm_ (a' := ?_) ?_ ?_
            rotate_left
            · show Act.put _ (some 54) _ = _
              simp only [Act.put, List.setIfInBounds_toArray, List.set_cons_zero, List.set_cons_succ, i64_w, i32_w]
              rfl
            refine one_ (i := 3) (N := some 56) #[true, true, true, true, false, false, false, true, false, false] rfl rfl (one_of HT_.out (by kernel_rfl)) (by decide) (fun K hK => ?_)
            refine goes_ Try.func27 (by kernel_rfl) rfl #[.agg #[.int .i64 t255, .int .i64 t256], .agg #[.int .i64 t242, .int .i64 t243]] (by rfl) rfl rfl (by (try simp only [List.map_toArray, List.map_cons, List.map_nil]); first | done | rfl | (simp only [List.length_drop, List.length_take]; rfl)) ?_
            with_reducible refine (impl_SpanDiv.calls kj5 t255 t256 t242 t243 t257 t258 t259 _ A39.out).mono ?_
            rintro e w99 ⟨rfl, hb⟩
            refine ⟨_, rfl, ?_⟩
            have n0_ := Aside0.mk (blk_below (g := gb244) (o := .cells #[.int .i64 t240, .int .i64 t241] 30 (0, 0)) BK244.out hb)
            have n1_ := Aside0.mk (blk_below (g := gb245) (o := .cells #[.int .i64 t242, .int .i64 t243] 30 (0, 0)) BK245.out hb)
            have n2_ := Aside0.mk (blk_below (g := gb249) (o := .cells #[.int .i64 t246, .int .i64 t247] 30 (0, 0)) BK249.out hb)
            have n3_ := Aside0.mk (blk_below (g := gb253) (o := .cells #[.int .i64 t250, .int .i64 t251] 30 (0, 0)) BK253.out hb)
            have n4_ := Aside0.mk (blk_below (g := gb260) (o := .cells #[.int .i64 0, .int .i64 0] 30 (0, 0)) BK260.out hb)
            have n5_ := Aside0.mk (below_step HB.out hb)
            clear BK244 BK245 BK249 BK253 BK260 HB
            have BK244 := n0_; have BK245 := n1_; have BK249 := n2_; have BK253 := n3_; have BK260 := n4_; have HB := n5_
            clear n0_ n1_ n2_ n3_ n4_ n5_
            (try clear hb)
            (try clear hb2)
            (try clear hk)
            (try clear hi)
            refine hK.out _ _ ⟨(blk_cell BK244.out 0).trans rfl, (blk_cell BK244.out 1).trans rfl, (blk_cell BK245.out 0).trans rfl, (blk_cell BK245.out 1).trans rfl⟩ (fun hHeld => ?_)
            clear hK K
            refine norm_ (a' := ?_) ?_ ?_
            rotate_left
            · show Act.put _ (some 56) _ = _
              simp only [Act.put, List.setIfInBounds_toArray, List.set_cons_zero, List.set_cons_succ, i64_w, i32_w]
              rfl
            refine pure_ (i := 4) (N := some 52) (v := ?_) (a' := ?_) #[true, true, true, true, true, false, false, true, false, false] rfl rfl (any_of HT_.out (by kernel_rfl)) (fun _ _ _ h => h) (Or.inl ⟨by rfl, ?_⟩) ?_ ?_
            rotate_left
            · intro w'
              go_simp
              with_reducible rfl
            rotate_left
            · simp only [Act.put, List.setIfInBounds_toArray, List.set_cons_zero, List.set_cons_succ, i64_w, i32_w]
              rfl
            refine pure_ (i := 5) (N := some 57) (v := ?_) (a' := ?_) #[true, true, true, true, true, true, false, true, false, false] rfl rfl (any_of HT_.out (by kernel_rfl)) (fun _ _ _ h => h) (Or.inl ⟨by rfl, ?_⟩) ?_ ?_
            rotate_left
            · intro w'
              go_simp
              with_reducible rfl
            rotate_left
            · simp only [Act.put, List.setIfInBounds_toArray, List.set_cons_zero, List.set_cons_succ, i64_w, i32_w]
              rfl
            refine pure_ (i := 6) (N := some 58) (v := ?_) (a' := ?_) #[true, true, true, true, true, true, true, true, false, false] rfl rfl (any_of HT_.out (by kernel_rfl)) (fun _ _ _ h => h) (Or.inl ⟨by rfl, ?_⟩) ?_ ?_
            rotate_left
            · intro w'
              go_simp
              with_reducible rfl
            rotate_left
            · simp only [Act.put, List.setIfInBounds_toArray, List.set_cons_zero, List.set_cons_succ, i64_w, i32_w]
              rfl
            exact norm_ (by simp only [putAll, Act.put, List.setIfInBounds_toArray, List.set_cons_zero, List.set_cons_succ]) (hCont (gb260) _ ⟨hHeld, BK244.out, BK245.out, BK249.out, BK253.out, BK260.out, GW260.out, GE260.out, NB244_260.out, NB260_244.out, NB245_260.out, NB260_245.out, NB249_260.out, NB260_249.out, NB253_260.out, NB260_253.out, HB.out⟩)
        rintro gb260 w100 ⟨hS_, h0_, h1_, h2_, h3_, h4_, h5_, h6_, h7_, h8_, h9_, h10_, h11_, h12_, h13_, h14_, h15_⟩
        have n0_ : Aside0 (w100.heap[gb244]? = some (.cells #[.int .i64 t240, .int .i64 t241] 30 (0, 0))) := ⟨h0_⟩
        have n1_ : Aside0 (w100.heap[gb245]? = some (.cells #[.int .i64 t242, .int .i64 t243] 30 (0, 0))) := ⟨h1_⟩
        have n2_ : Aside0 (w100.heap[gb249]? = some (.cells #[.int .i64 t246, .int .i64 t247] 30 (0, 0))) := ⟨h2_⟩
        have n3_ : Aside0 (w100.heap[gb253]? = some (.cells #[.int .i64 t250, .int .i64 t251] 30 (0, 0))) := ⟨h3_⟩
        have n4_ : Aside0 (w100.heap[gb260]? = some (.cells #[.int .i64 0, .int .i64 0] 30 (0, 0))) := ⟨h4_⟩
        have n5_ : Aside0 (w.heap.size ≤ gb260) := ⟨h5_⟩
        have n6_ : Aside0 (w.heap.size ≤ gb260) := ⟨h6_⟩
        have n7_ : Aside0 (gb244 ≠ gb260) := ⟨h7_⟩
        have n8_ : Aside0 (gb260 ≠ gb244) := ⟨h8_⟩
        have n9_ : Aside0 (gb245 ≠ gb260) := ⟨h9_⟩
        have n10_ : Aside0 (gb260 ≠ gb245) := ⟨h10_⟩
        have n11_ : Aside0 (gb249 ≠ gb260) := ⟨h11_⟩
        have n12_ : Aside0 (gb260 ≠ gb249) := ⟨h12_⟩
        have n13_ : Aside0 (gb253 ≠ gb260) := ⟨h13_⟩
        have n14_ : Aside0 (gb260 ≠ gb253) := ⟨h14_⟩
        have n15_ : Aside0 (Below w.heap.size w w100) := ⟨h15_⟩
        clear BK244 BK245 BK249 BK253 HB
        clear h0_ h1_ h2_ h3_ h4_ h5_ h6_ h7_ h8_ h9_ h10_ h11_ h12_ h13_ h14_ h15_
        have BK244 := n0_; have BK245 := n1_; have BK249 := n2_; have BK253 := n3_; have BK260 := n4_; have GW260 := n5_; have GE260 := n6_; have NB244_260 := n7_; have NB260_244 := n8_; have NB245_260 := n9_; have NB260_245 := n10_; have NB249_260 := n11_; have NB260_249 := n12_; have NB253_260 := n13_; have NB260_253 := n14_; have HB := n15_
        clear n0_ n1_ n2_ n3_ n4_ n5_ n6_ n7_ n8_ n9_ n10_ n11_ n12_ n13_ n14_ n15_
        have hHeld : w100.cell? ⟨gb244, 0, none⟩ = some (.int .i64 t240) ∧ w100.cell? ⟨gb244, 1, none⟩ = some (.int .i64 t241) ∧ w100.cell? ⟨gb245, 0, none⟩ = some (.int .i64 t242) ∧ w100.cell? ⟨gb245, 1, none⟩ = some (.int .i64 t243) := hS_
        refine norm_ (a' := ?_) ?_ ?_
        rotate_left
        · simp only [putAll, Act.put, List.setIfInBounds_toArray, List.set_cons_zero, List.set_cons_succ]
          rfl
        refine one_ (i := 8) (N := none) #[true, true, true, true, true, true, true, true, true, false] rfl rfl (one_of HT_.out (by kernel_rfl)) (by decide) (fun K hK => ?_)
        have hs101 : w100.cell? ⟨gb260, 0, none⟩ = some (.int .i64 0) := (blk_cell BK260.out 0).trans rfl
        have hfs101 := blk_frozen BK260.out 0
        have hns101_0 := NB244_260.out
        have hns101_1 := NB245_260.out
        have hns101_2 := NB249_260.out
        have hns101_3 := NB253_260.out
        have hms101_0 := NB260_244.out
        have hms101_1 := NB260_245.out
        have hms101_2 := NB260_249.out
        have hms101_3 := NB260_253.out
        have hs102 : w100.cell? ⟨gb260, 1, none⟩ = some (.int .i64 0) := (blk_cell BK260.out 1).trans rfl
        have hfs102 := blk_frozen BK260.out 1
        have hns102_0 := NB244_260.out
        have hns102_1 := NB245_260.out
        have hns102_2 := NB249_260.out
        have hns102_3 := NB253_260.out
        have hms102_0 := NB260_244.out
        have hms102_1 := NB260_245.out
        have hms102_2 := NB260_249.out
        have hms102_3 := NB260_253.out
        refine skip_ (w1 := ?_) (by rfl) rfl ?_ ?_
        rotate_left
        · go_simp
          rfl
        refine hK.out _ _ ⟨((cell_far (p := ⟨gb260, _, none⟩) NB244_260.out _).trans (((cell_far (p := ⟨gb260, _, none⟩) NB244_260.out _).trans (hHeld.1)))), ((cell_far (p := ⟨gb260, _, none⟩) NB244_260.out _).trans (((cell_far (p := ⟨gb260, _, none⟩) NB244_260.out _).trans (hHeld.2.1)))), ((cell_far (p := ⟨gb260, _, none⟩) NB245_260.out _).trans (((cell_far (p := ⟨gb260, _, none⟩) NB245_260.out _).trans (hHeld.2.2.1)))), ((cell_far (p := ⟨gb260, _, none⟩) NB245_260.out _).trans (((cell_far (p := ⟨gb260, _, none⟩) NB245_260.out _).trans (hHeld.2.2.2))))⟩ (fun hHeld => ?_)
        clear hK K
        refine pure_ (i := 9) (N := some 11) (v := ?_) (a' := ?_) #[true, true, true, true, true, true, true, true, true, true] rfl rfl (any_of HT_.out (by kernel_rfl)) (fun _ _ _ h => h) (Or.inl ⟨by rfl, ?_⟩) ?_ ?_
        rotate_left
        · intro w'
          go_simp
          with_reducible rfl
        rotate_left
        · simp only [Act.put, List.setIfInBounds_toArray, List.set_cons_zero, List.set_cons_succ, i64_w, i32_w]
          rfl
        refine done_ (done_of HT_.out (by kernel_rfl)) ?_
        try go_wp2
        have n0_ : Aside0 (((w100.setCell ⟨gb260, 0, none⟩ (.int .i64 t257)).setCell ⟨gb260, 1, none⟩ (.int .i64 t258)).heap[gb244]? = some (.cells #[.int .i64 t240, .int .i64 t241] 30 (0, 0))) := ⟨by (with_reducible repeat (first | refine blk_drewN ?_ _ | refine blk_drew ?_ | refine blk_alloc ?_ _)); refine blk_far ?_ NB244_260.out _; (with_reducible repeat (first | refine blk_drewN ?_ _ | refine blk_drew ?_ | refine blk_alloc ?_ _)); refine blk_far ?_ NB244_260.out _; (with_reducible repeat (first | refine blk_drewN ?_ _ | refine blk_drew ?_ | refine blk_alloc ?_ _)); exact BK244.out⟩
        have n1_ : Aside0 (((w100.setCell ⟨gb260, 0, none⟩ (.int .i64 t257)).setCell ⟨gb260, 1, none⟩ (.int .i64 t258)).heap[gb245]? = some (.cells #[.int .i64 t242, .int .i64 t243] 30 (0, 0))) := ⟨by (with_reducible repeat (first | refine blk_drewN ?_ _ | refine blk_drew ?_ | refine blk_alloc ?_ _)); refine blk_far ?_ NB245_260.out _; (with_reducible repeat (first | refine blk_drewN ?_ _ | refine blk_drew ?_ | refine blk_alloc ?_ _)); refine blk_far ?_ NB245_260.out _; (with_reducible repeat (first | refine blk_drewN ?_ _ | refine blk_drew ?_ | refine blk_alloc ?_ _)); exact BK245.out⟩
        have n2_ : Aside0 (((w100.setCell ⟨gb260, 0, none⟩ (.int .i64 t257)).setCell ⟨gb260, 1, none⟩ (.int .i64 t258)).heap[gb249]? = some (.cells #[.int .i64 t246, .int .i64 t247] 30 (0, 0))) := ⟨by (with_reducible repeat (first | refine blk_drewN ?_ _ | refine blk_drew ?_ | refine blk_alloc ?_ _)); refine blk_far ?_ NB249_260.out _; (with_reducible repeat (first | refine blk_drewN ?_ _ | refine blk_drew ?_ | refine blk_alloc ?_ _)); refine blk_far ?_ NB249_260.out _; (with_reducible repeat (first | refine blk_drewN ?_ _ | refine blk_drew ?_ | refine blk_alloc ?_ _)); exact BK249.out⟩
        have n3_ : Aside0 (((w100.setCell ⟨gb260, 0, none⟩ (.int .i64 t257)).setCell ⟨gb260, 1, none⟩ (.int .i64 t258)).heap[gb253]? = some (.cells #[.int .i64 t250, .int .i64 t251] 30 (0, 0))) := ⟨by (with_reducible repeat (first | refine blk_drewN ?_ _ | refine blk_drew ?_ | refine blk_alloc ?_ _)); refine blk_far ?_ NB253_260.out _; (with_reducible repeat (first | refine blk_drewN ?_ _ | refine blk_drew ?_ | refine blk_alloc ?_ _)); refine blk_far ?_ NB253_260.out _; (with_reducible repeat (first | refine blk_drewN ?_ _ | refine blk_drew ?_ | refine blk_alloc ?_ _)); exact BK253.out⟩
        have n4_ : Aside0 (((w100.setCell ⟨gb260, 0, none⟩ (.int .i64 t257)).setCell ⟨gb260, 1, none⟩ (.int .i64 t258)).heap[gb260]? = some (.cells #[.int .i64 t257, .int .i64 t258] 30 (0, 0))) := ⟨by (with_reducible repeat (first | refine blk_drewN ?_ _ | refine blk_drew ?_ | refine blk_alloc ?_ _)); refine blk_put (cs := #[.int .i64 t257, .int .i64 0]) ?_ 1 _ rfl; (with_reducible repeat (first | refine blk_drewN ?_ _ | refine blk_drew ?_ | refine blk_alloc ?_ _)); refine blk_put (cs := #[.int .i64 0, .int .i64 0]) ?_ 0 _ rfl; (with_reducible repeat (first | refine blk_drewN ?_ _ | refine blk_drew ?_ | refine blk_alloc ?_ _)); exact BK260.out⟩
        have n5_ : Aside0 (Below w.heap.size w ((w100.setCell ⟨gb260, 0, none⟩ (.int .i64 t257)).setCell ⟨gb260, 1, none⟩ (.int .i64 t258))) := ⟨by repeat (first | (with_reducible first | exact HB.out | apply below_alloc | apply pw_below_drewN | apply below_drew1 | refine below_set ?_ GE244.out | refine below_set ?_ GE245.out | refine below_set ?_ GE249.out | refine below_set ?_ GE253.out | refine below_set ?_ GE260.out) | exact HB.out)⟩
        (try clear BK244)
        (try clear BK245)
        (try clear BK249)
        (try clear BK253)
        (try clear BK260)
        (try clear HB)
        generalize ((w100.setCell ⟨gb260, 0, none⟩ (.int .i64 t257)).setCell ⟨gb260, 1, none⟩ (.int .i64 t258)) = w103 at n0_ n1_ n2_ n3_ n4_ n5_ ⊢
        have BK244 := n0_; have BK245 := n1_; have BK249 := n2_; have BK253 := n3_; have BK260 := n4_; have HB := n5_
        clear n0_ n1_ n2_ n3_ n4_ n5_
        have n0_ := Aside0.mk (blk_drew BK244.out)
        have n1_ := Aside0.mk (blk_drew BK245.out)
        have n2_ := Aside0.mk (blk_drew BK249.out)
        have n3_ := Aside0.mk (blk_drew BK253.out)
        have n4_ := Aside0.mk (blk_drew BK260.out)
        have n5_ := Aside0.mk (below_drew1 HB.out)
        clear BK244 BK245 BK249 BK253 BK260 HB
        have BK244 := n0_; have BK245 := n1_; have BK249 := n2_; have BK253 := n3_; have BK260 := n4_; have HB := n5_
        clear n0_ n1_ n2_ n3_ n4_ n5_
        refine start_ (n := 19) (S := fun w' => True) (ds := []) #[false, false, false, false, false, false, false, false, false, false, false, false, false, false, false, false, false, false, false] (by kernel_rfl) rfl rfl trivial (fun hHeld => ?_); refine with_tabW laws_FnSpanDivNone.tab10 laws_FnSpanDivNone.bits10 (fun HT_ HW_ => ?_)
        generalize w103.drew = w104 at BK244 BK245 BK249 BK253 BK260 HB hHeld ⊢
        refine pure_ (i := 0) (N := some 59) (v := ?_) (a' := ?_) #[true, false, false, false, false, false, false, false, false, false, false, false, false, false, false, false, false, false, false] rfl rfl (any_of HT_.out (by kernel_rfl)) (fun _ _ _ h => h) (Or.inl ⟨by rfl, ?_⟩) ?_ ?_
        rotate_left
        · intro w'
          go_simp
          with_reducible rfl
        rotate_left
        · simp only [Act.put, List.setIfInBounds_toArray, List.set_cons_zero, List.set_cons_succ, i64_w, i32_w]
          rfl
        refine pure_ (i := 1) (N := some 60) (v := ?_) (a' := ?_) #[true, true, false, false, false, false, false, false, false, false, false, false, false, false, false, false, false, false, false] rfl rfl (any_of HT_.out (by kernel_rfl)) (fun _ _ _ h => h) (Or.inl ⟨by rfl, ?_⟩) ?_ ?_
        rotate_left
        · intro w'
          go_simp
          with_reducible rfl
        rotate_left
        · simp only [Act.put, List.setIfInBounds_toArray, List.set_cons_zero, List.set_cons_succ, i64_w, i32_w]
          rfl
        refine pure_ (i := 2) (N := some 61) (v := undef) (a' := ?_) #[true, true, true, false, false, false, false, false, false, false, false, false, false, false, false, false, false, false, false] rfl rfl (any_of HT_.out (by kernel_rfl)) (fun _ _ _ h => h) (Or.inr ⟨by rfl, rfl⟩) ?_ ?_
        rotate_left
        · simp only [Act.put, List.setIfInBounds_toArray, List.set_cons_zero, List.set_cons_succ, i64_w, i32_w]
          rfl
        refine pure_ (i := 3) (N := some 62) (v := ?_) (a' := ?_) #[true, true, true, true, false, false, false, false, false, false, false, false, false, false, false, false, false, false, false] rfl rfl (any_of HT_.out (by kernel_rfl)) (fun _ _ _ h => h) (Or.inl ⟨by rfl, ?_⟩) ?_ ?_
        rotate_left
        · intro w'
          go_simp
          with_reducible rfl
        rotate_left
        · simp only [Act.put, List.setIfInBounds_toArray, List.set_cons_zero, List.set_cons_succ, i64_w, i32_w]
          rfl
        refine pure_ (i := 4) (N := some 63) (v := ?_) (a' := ?_) #[true, true, true, true, true, false, false, false, false, false, false, false, false, false, false, false, false, false, false] rfl rfl (any_of HT_.out (by kernel_rfl)) (fun _ _ _ h => h) (Or.inl ⟨by rfl, ?_⟩) ?_ ?_
        rotate_left
        · intro w'
          go_simp
          with_reducible rfl
        rotate_left
        · simp only [Act.put, List.setIfInBounds_toArray, List.set_cons_zero, List.set_cons_succ, i64_w, i32_w]
          rfl
        refine pure_ (i := 5) (N := some 64) (v := ?_) (a' := ?_) #[true, true, true, true, true, true, false, false, false, false, false, false, false, false, false, false, false, false, false] rfl rfl (any_of HT_.out (by kernel_rfl)) (fun _ _ _ h => h) (Or.inl ⟨by rfl, ?_⟩) ?_ ?_
        rotate_left
        · intro w'
          go_simp
          with_reducible rfl
        rotate_left
        · simp only [Act.put, List.setIfInBounds_toArray, List.set_cons_zero, List.set_cons_succ, i64_w, i32_w]
          rfl
        refine pure_ (i := 6) (N := some 65) (v := ?_) (a' := ?_) #[true, true, true, true, true, true, true, false, false, false, false, false, false, false, false, false, false, false, false] rfl rfl (any_of HT_.out (by kernel_rfl)) (fun _ _ _ h => h) (Or.inl ⟨by rfl, ?_⟩) ?_ ?_
        rotate_left
        · intro w'
          go_simp
          with_reducible rfl
        rotate_left
        · simp only [Act.put, List.setIfInBounds_toArray, List.set_cons_zero, List.set_cons_succ, i64_w, i32_w]
          rfl
        refine pure_ (i := 7) (N := some 66) (v := ?_) (a' := ?_) #[true, true, true, true, true, true, true, true, false, false, false, false, false, false, false, false, false, false, false] rfl rfl (any_of HT_.out (by kernel_rfl)) (fun _ _ _ h => h) (Or.inl ⟨by rfl, ?_⟩) ?_ ?_
        rotate_left
        · intro w'
          go_simp
          with_reducible rfl
        rotate_left
        · simp only [Act.put, List.setIfInBounds_toArray, List.set_cons_zero, List.set_cons_succ, i64_w, i32_w]
          rfl
        refine pure_ (i := 8) (N := some 67) (v := ?_) (a' := ?_) #[true, true, true, true, true, true, true, true, true, false, false, false, false, false, false, false, false, false, false] rfl rfl (any_of HT_.out (by kernel_rfl)) (fun _ _ _ h => h) (Or.inl ⟨by rfl, ?_⟩) ?_ ?_
        rotate_left
        · intro w'
          go_simp
          with_reducible rfl
        rotate_left
        · simp only [Act.put, List.setIfInBounds_toArray, List.set_cons_zero, List.set_cons_succ, i64_w, i32_w]
          rfl
        refine pure_ (i := 9) (N := some 68) (v := undef) (a' := ?_) #[true, true, true, true, true, true, true, true, true, true, false, false, false, false, false, false, false, false, false] rfl rfl (any_of HT_.out (by kernel_rfl)) (fun _ _ _ h => h) (Or.inr ⟨by rfl, rfl⟩) ?_ ?_
        rotate_left
        · simp only [Act.put, List.setIfInBounds_toArray, List.set_cons_zero, List.set_cons_succ, i64_w, i32_w]
          rfl
        refine pure_ (i := 10) (N := some 69) (v := undef) (a' := ?_) #[true, true, true, true, true, true, true, true, true, true, true, false, false, false, false, false, false, false, false] rfl rfl (any_of HT_.out (by kernel_rfl)) (fun _ _ _ h => h) (Or.inr ⟨by rfl, rfl⟩) ?_ ?_
        rotate_left
        · simp only [Act.put, List.setIfInBounds_toArray, List.set_cons_zero, List.set_cons_succ, i64_w, i32_w]
          rfl
        refine pure_ (i := 11) (N := some 70) (v := undef) (a' := ?_) #[true, true, true, true, true, true, true, true, true, true, true, true, false, false, false, false, false, false, false] rfl rfl (any_of HT_.out (by kernel_rfl)) (fun _ _ _ h => h) (Or.inr ⟨by rfl, rfl⟩) ?_ ?_
        rotate_left
        · simp only [Act.put, List.setIfInBounds_toArray, List.set_cons_zero, List.set_cons_succ, i64_w, i32_w]
          rfl
        refine pure_ (i := 12) (N := some 71) (v := undef) (a' := ?_) #[true, true, true, true, true, true, true, true, true, true, true, true, true, false, false, false, false, false, false] rfl rfl (any_of HT_.out (by kernel_rfl)) (fun _ _ _ h => h) (Or.inr ⟨by rfl, rfl⟩) ?_ ?_
        rotate_left
        · simp only [Act.put, List.setIfInBounds_toArray, List.set_cons_zero, List.set_cons_succ, i64_w, i32_w]
          rfl
        refine pure_ (i := 13) (N := some 72) (v := undef) (a' := ?_) #[true, true, true, true, true, true, true, true, true, true, true, true, true, true, false, false, false, false, false] rfl rfl (any_of HT_.out (by kernel_rfl)) (fun _ _ _ h => h) (Or.inr ⟨by rfl, rfl⟩) ?_ ?_
        rotate_left
        · simp only [Act.put, List.setIfInBounds_toArray, List.set_cons_zero, List.set_cons_succ, i64_w, i32_w]
          rfl
        refine pure_ (i := 14) (N := some 73) (v := undef) (a' := ?_) #[true, true, true, true, true, true, true, true, true, true, true, true, true, true, true, false, false, false, false] rfl rfl (any_of HT_.out (by kernel_rfl)) (fun _ _ _ h => h) (Or.inr ⟨by rfl, rfl⟩) ?_ ?_
        rotate_left
        · simp only [Act.put, List.setIfInBounds_toArray, List.set_cons_zero, List.set_cons_succ, i64_w, i32_w]
          rfl
        refine pure_ (i := 15) (N := some 74) (v := undef) (a' := ?_) #[true, true, true, true, true, true, true, true, true, true, true, true, true, true, true, true, false, false, false] rfl rfl (any_of HT_.out (by kernel_rfl)) (fun _ _ _ h => h) (Or.inr ⟨by rfl, rfl⟩) ?_ ?_
        rotate_left
        · simp only [Act.put, List.setIfInBounds_toArray, List.set_cons_zero, List.set_cons_succ, i64_w, i32_w]
          rfl
        refine pure_ (i := 16) (N := some 75) (v := ?_) (a' := ?_) #[true, true, true, true, true, true, true, true, true, true, true, true, true, true, true, true, true, false, false] rfl rfl (any_of HT_.out (by kernel_rfl)) (fun _ _ _ h => h) (Or.inl ⟨by rfl, ?_⟩) ?_ ?_
        rotate_left
        · intro w'
          go_simp
          with_reducible rfl
        rotate_left
        · simp only [Act.put, List.setIfInBounds_toArray, List.set_cons_zero, List.set_cons_succ, i64_w, i32_w]
          rfl
        refine pure_ (i := 17) (N := some 76) (v := ?_) (a' := ?_) #[true, true, true, true, true, true, true, true, true, true, true, true, true, true, true, true, true, true, false] rfl rfl (any_of HT_.out (by kernel_rfl)) (fun _ _ _ h => h) (Or.inl ⟨by rfl, ?_⟩) ?_ ?_
        rotate_left
        · intro w'
          go_simp
          with_reducible rfl
        rotate_left
        · simp only [Act.put, List.setIfInBounds_toArray, List.set_cons_zero, List.set_cons_succ, i64_w, i32_w]
          rfl
        refine pure_ (i := 18) (N := some 2) (v := ?_) (a' := ?_) #[true, true, true, true, true, true, true, true, true, true, true, true, true, true, true, true, true, true, true] rfl rfl (any_of HT_.out (by kernel_rfl)) (fun _ _ _ h => h) (Or.inl ⟨by rfl, ?_⟩) ?_ ?_
        rotate_left
        · intro w'
          go_simp
          with_reducible rfl
        rotate_left
        · simp only [Act.put, List.setIfInBounds_toArray, List.set_cons_zero, List.set_cons_succ, i64_w, i32_w]
          rfl
        refine done_ (done_of HT_.out (by kernel_rfl)) ?_
        try go_wp2
        go_ret
        exact ⟨by first | rfl | (simp [errW_none, errW_some] <;> rfl) | (simp [*, errW_none, errW_some] <;> rfl), by repeat (first | (with_reducible first | exact HB.out | apply below_alloc | apply pw_below_drewN | apply below_drew1 | refine below_set ?_ GE244.out | refine below_set ?_ GE245.out | refine below_set ?_ GE249.out | refine below_set ?_ GE253.out | refine below_set ?_ GE260.out) | exact HB.out)⟩
      rw [if_neg c37] at H
      have c37b0 : decide (t242 ≤ 0) = false := decide_eq_false c37
      clear c37
      replace H := Option.bind_eq_some_iff.mp H
      obtain ⟨⟨t263, t264⟩, A1050, H⟩ := H
      replace H : ((impl_SpanDiv.f kj5 t263 t264 t242 t243).bind fun bt265 => (if t252 = true then (if bt265.2.2 = true then ((impl_SpanNeg.f t250 t251).bind fun bt269 => (some (bt265.1 == bt269.1 && (bt265.2.1 == bt269.2)))) else (some false)) else (some true))) = some r := H
      have A105 := Aside0.mk A1050
      clear A1050
      replace H := Option.bind_eq_some_iff.mp H
      obtain ⟨⟨t265, t266, t267⟩, A1060, H⟩ := H
      replace H : (if t252 = true then (if t267 = true then ((impl_SpanNeg.f t250 t251).bind fun bt269 => (some (t265 == bt269.1 && (t266 == bt269.2)))) else (some false)) else (some true)) = some r := H
      have A106 := Aside0.mk A1060
      clear A1060
      by_cases c107 : t252 = true
      case pos => exact absurd c107 (by have e0 := EQ1a.out; have e1 := EQ1b.out; have e2 := EQ1c.out; have e3 := EQS.out; (try subst e0); (try subst e1); (try subst e2); (try subst e3); first | (simp; done) | simp_all)
      replace c107 := Bool.eq_false_iff.mpr c107
      subst c107
      have H1 : (some true) = some r := by rw [if_neg (show ¬ (false = true) by decide)] at H; exact H
      clear H
      have H := H1
      clear H1
      obtain rfl := Option.some.inj H
      have hnb141 := NB245_244.out
      have hnc141 := NB244_245.out
      have hnb142 := NB245_249.out
      have hnc142 := NB249_245.out
      have hnb143 := NB245_253.out
      have hnc143 := NB253_245.out
      have hcz144_0 : wc.cell? ⟨gb245, 0, none⟩ = some (.int .i64 t242) := (blk_cell BK245.out 0).trans rfl
      have hcz144_1 : wc.cell? ⟨gb245, 1, none⟩ = some (.int .i64 t243) := (blk_cell BK245.out 1).trans rfl
      have hfz144_0 := blk_frozen BK245.out 0
      have hfz144_1 := blk_frozen BK245.out 1
      try go_wp2_with (first | ((with_reducible refine gate_callee (f := 28) rfl ?_); refine goesL_ (some 41) rfl rfl Try.func28 (by kernel_rfl) rfl #[.agg #[.int .i64 t242, .int .i64 t243]] rfl (by (try simp only [List.map_toArray, List.map_cons, List.map_nil]); first | done | rfl | (simp only [List.length_drop, List.length_take]; rfl)) ?_; (with_reducible refine (spec_SpanOk.calls t242 t243 true _ A35.out).mono ?_); rintro e w145 ⟨rfl, hb⟩; refine ⟨_, rfl, ?_⟩; have n0_ := Aside0.mk (blk_below (g := gb244) (o := .cells #[.int .i64 t240, .int .i64 t241] 30 (0, 0)) (by (with_reducible repeat (first | refine blk_drewN ?_ _ | refine blk_drew ?_ | refine blk_alloc ?_ _)); exact BK244.out) hb); have n1_ := Aside0.mk (blk_below (g := gb245) (o := .cells #[.int .i64 t242, .int .i64 t243] 30 (0, 0)) (by (with_reducible repeat (first | refine blk_drewN ?_ _ | refine blk_drew ?_ | refine blk_alloc ?_ _)); exact BK245.out) hb); have n2_ := Aside0.mk (blk_below (g := gb249) (o := .cells #[.int .i64 t246, .int .i64 t247] 30 (0, 0)) (by (with_reducible repeat (first | refine blk_drewN ?_ _ | refine blk_drew ?_ | refine blk_alloc ?_ _)); exact BK249.out) hb); have n3_ := Aside0.mk (blk_below (g := gb253) (o := .cells #[.int .i64 t250, .int .i64 t251] 30 (0, 0)) (by (with_reducible repeat (first | refine blk_drewN ?_ _ | refine blk_drew ?_ | refine blk_alloc ?_ _)); exact BK253.out) hb); have n4_ := Aside0.mk (below_step (by repeat (first | (with_reducible first | exact HB.out | apply below_alloc | apply pw_below_drewN | apply below_drew1 | refine below_set ?_ GE244.out | refine below_set ?_ GE245.out | refine below_set ?_ GE249.out | refine below_set ?_ GE253.out) | exact HB.out)) hb); clear BK244; clear BK245; clear BK249; clear BK253; clear HB; have BK244 := n0_; have BK245 := n1_; have BK249 := n2_; have BK253 := n3_; have HB := n4_; clear n0_ n1_ n2_ n3_ n4_; (try clear hb); (try clear hb2); (try clear hk); (try clear hi); have hcz146_0 : w145.cell? ⟨gb245, 0, none⟩ = some (.int .i64 t242) := (blk_cell BK245.out 0).trans rfl; have hcz146_1 : w145.cell? ⟨gb245, 1, none⟩ = some (.int .i64 t243) := (blk_cell BK245.out 1).trans rfl; have hfz146_0 := blk_frozen BK245.out 0; have hfz146_1 := blk_frozen BK245.out 1))
      have n0_ := Aside0.mk (blk_drew BK244.out)
      have n1_ := Aside0.mk (blk_drew BK245.out)
      have n2_ := Aside0.mk (blk_drew BK249.out)
      have n3_ := Aside0.mk (blk_drew BK253.out)
      have n4_ := Aside0.mk (below_drew1 HB.out)
      clear BK244 BK245 BK249 BK253 HB
      have BK244 := n0_; have BK245 := n1_; have BK249 := n2_; have BK253 := n3_; have HB := n4_
      clear n0_ n1_ n2_ n3_ n4_
      refine start_ (n := 10) (S := fun w' => w'.cell? ⟨gb244, 0, none⟩ = some (.int .i64 t240) ∧ w'.cell? ⟨gb244, 1, none⟩ = some (.int .i64 t241) ∧ w'.cell? ⟨gb245, 0, none⟩ = some (.int .i64 t242) ∧ w'.cell? ⟨gb245, 1, none⟩ = some (.int .i64 t243)) (ds := []) #[false, false, false, false, false, false, false, false, false, false] (by kernel_rfl) rfl rfl ⟨(blk_cell BK244.out 0).trans rfl, (blk_cell BK244.out 1).trans rfl, (blk_cell BK245.out 0).trans rfl, (blk_cell BK245.out 1).trans rfl⟩ (fun hHeld => ?_); refine with_tabW laws_FnSpanDivNone.tab9 laws_FnSpanDivNone.bits9 (fun HT_ HW_ => ?_)
      generalize w145.drew = w147 at BK244 BK245 BK249 BK253 HB hHeld ⊢
      refine take_ (i := 0) (N := some 53) (v := ?_) (a' := ?_) #[true, false, false, false, false, false, false, false, false, false] rfl rfl (take_ofW HT_.out HW_.out (by kernel_rfl)) (fun _ _ _ h => h) (Or.inl ⟨by rfl, ?_⟩) hHeld ?_ ?_
      rotate_left
      · rintro w' ⟨s0, s1, s2, s3⟩
        go_simp
        with_reducible rfl
      rotate_left
      · simp only [Act.put, List.setIfInBounds_toArray, List.set_cons_zero, List.set_cons_succ, i64_w, i32_w]
        rfl
      refine take_ (i := 2) (N := some 55) (v := ?_) (a' := ?_) #[true, false, true, false, false, false, false, false, false, false] rfl rfl (take_ofW HT_.out HW_.out (by kernel_rfl)) (fun _ _ _ h => h) (Or.inl ⟨by rfl, ?_⟩) hHeld ?_ ?_
      rotate_left
      · rintro w' ⟨s0, s1, s2, s3⟩
        go_simp
        with_reducible rfl
      rotate_left
      · simp only [Act.put, List.setIfInBounds_toArray, List.set_cons_zero, List.set_cons_succ, i64_w, i32_w]
        rfl
      refine join_ (σ := Nat) 2 #[true, true, true, true, true, true, true, true, false, false] (fun s_ => [(54, .agg #[.int .i64 t263, .int .i64 t264]), (56, .tuple #[.agg #[.int .i64 t265, .int .i64 t266], .bool t267]), (10, .pointer (some ⟨s_, 0, none⟩)), (52, .tuple #[.agg #[.int .i64 t265, .int .i64 t266], .bool t267]), (57, .agg #[.int .i64 t265, .int .i64 t266]), (58, .bool t267)]) (fun s_ w' => (w'.cell? ⟨gb244, 0, none⟩ = some (.int .i64 t240) ∧ w'.cell? ⟨gb244, 1, none⟩ = some (.int .i64 t241) ∧ w'.cell? ⟨gb245, 0, none⟩ = some (.int .i64 t242) ∧ w'.cell? ⟨gb245, 1, none⟩ = some (.int .i64 t243)) ∧ (w'.heap[gb244]? = some (.cells #[.int .i64 t240, .int .i64 t241] 30 (0, 0))) ∧ (w'.heap[gb245]? = some (.cells #[.int .i64 t242, .int .i64 t243] 30 (0, 0))) ∧ (w'.heap[gb249]? = some (.cells #[.int .i64 t246, .int .i64 t247] 30 (0, 0))) ∧ (w'.heap[gb253]? = some (.cells #[.int .i64 t250, .int .i64 t251] 30 (0, 0))) ∧ (w'.heap[s_]? = some (.cells #[.int .i64 0, .int .i64 0] 30 (0, 0))) ∧ (w.heap.size ≤ s_) ∧ (w.heap.size ≤ s_) ∧ (gb244 ≠ s_) ∧ (s_ ≠ gb244) ∧ (gb245 ≠ s_) ∧ (s_ ≠ gb245) ∧ (gb249 ≠ s_) ∧ (s_ ≠ gb249) ∧ (gb253 ≠ s_) ∧ (s_ ≠ gb253) ∧ (Below w.heap.size w w')) ?_ ?_
      rotate_left
      · intro hCont
        refine two_ (i := 1) (j := 7) (Ni := some 54) (Nj := some 10) #[true, true, true, false, false, false, false, false, false, false] #[true, false, true, false, false, false, false, true, false, false] rfl rfl rfl rfl (two_of HT_.out (by kernel_rfl)) (by decide) (by decide) (fun K hK => ?_) (fun K hK => ?_)
        · skip
          refine goes_ Try.func29 (by kernel_rfl) rfl #[.agg #[.int .i64 t240, .int .i64 t241]] (by rfl) rfl rfl (by (try simp only [List.map_toArray, List.map_cons, List.map_nil]); first | done | rfl | (simp only [List.length_drop, List.length_take]; rfl)) ?_
          with_reducible refine (impl_SpanNeg.calls t240 t241 t263 t264 _ A105.out).mono ?_
          rintro e w148 ⟨rfl, hb⟩
          refine ⟨_, rfl, ?_⟩
          have n0_ := Aside0.mk (blk_below (g := gb244) (o := .cells #[.int .i64 t240, .int .i64 t241] 30 (0, 0)) BK244.out hb)
          have n1_ := Aside0.mk (blk_below (g := gb245) (o := .cells #[.int .i64 t242, .int .i64 t243] 30 (0, 0)) BK245.out hb)
          have n2_ := Aside0.mk (blk_below (g := gb249) (o := .cells #[.int .i64 t246, .int .i64 t247] 30 (0, 0)) BK249.out hb)
          have n3_ := Aside0.mk (blk_below (g := gb253) (o := .cells #[.int .i64 t250, .int .i64 t251] 30 (0, 0)) BK253.out hb)
          have n4_ := Aside0.mk (below_step HB.out hb)
          clear BK244 BK245 BK249 BK253 HB
          have BK244 := n0_; have BK245 := n1_; have BK249 := n2_; have BK253 := n3_; have HB := n4_
          clear n0_ n1_ n2_ n3_ n4_
          (try clear hb)
          (try clear hb2)
          (try clear hk)
          (try clear hi)
          refine hK.out _ _ ⟨(blk_cell BK244.out 0).trans rfl, (blk_cell BK244.out 1).trans rfl, (blk_cell BK245.out 0).trans rfl, (blk_cell BK245.out 1).trans rfl⟩ (fun hHeld => ?_)
          clear hK K
          refine norm_ (a' := ?_) ?_ ?_
          rotate_left
          · show Act.put _ (some 54) _ = _
            simp only [Act.put, List.setIfInBounds_toArray, List.set_cons_zero, List.set_cons_succ, i64_w, i32_w]
            rfl
          refine two_ (i := 3) (j := 7) (Ni := some 56) (Nj := some 10) #[true, true, true, true, false, false, false, false, false, false] #[true, true, true, false, false, false, false, true, false, false] rfl rfl rfl rfl (two_of HT_.out (by kernel_rfl)) (by decide) (by decide) (fun K hK => ?_) (fun K hK => ?_)
          · skip
            refine goes_ Try.func27 (by kernel_rfl) rfl #[.agg #[.int .i64 t263, .int .i64 t264], .agg #[.int .i64 t242, .int .i64 t243]] (by rfl) rfl rfl (by (try simp only [List.map_toArray, List.map_cons, List.map_nil]); first | done | rfl | (simp only [List.length_drop, List.length_take]; rfl)) ?_
            with_reducible refine (impl_SpanDiv.calls kj5 t263 t264 t242 t243 t265 t266 t267 _ A106.out).mono ?_
            rintro e w149 ⟨rfl, hb⟩
            refine ⟨_, rfl, ?_⟩
            have n0_ := Aside0.mk (blk_below (g := gb244) (o := .cells #[.int .i64 t240, .int .i64 t241] 30 (0, 0)) BK244.out hb)
            have n1_ := Aside0.mk (blk_below (g := gb245) (o := .cells #[.int .i64 t242, .int .i64 t243] 30 (0, 0)) BK245.out hb)
            have n2_ := Aside0.mk (blk_below (g := gb249) (o := .cells #[.int .i64 t246, .int .i64 t247] 30 (0, 0)) BK249.out hb)
            have n3_ := Aside0.mk (blk_below (g := gb253) (o := .cells #[.int .i64 t250, .int .i64 t251] 30 (0, 0)) BK253.out hb)
            have n4_ := Aside0.mk (below_step HB.out hb)
            clear BK244 BK245 BK249 BK253 HB
            have BK244 := n0_; have BK245 := n1_; have BK249 := n2_; have BK253 := n3_; have HB := n4_
            clear n0_ n1_ n2_ n3_ n4_
            (try clear hb)
            (try clear hb2)
            (try clear hk)
            (try clear hi)
            refine hK.out _ _ ⟨(blk_cell BK244.out 0).trans rfl, (blk_cell BK244.out 1).trans rfl, (blk_cell BK245.out 0).trans rfl, (blk_cell BK245.out 1).trans rfl⟩ (fun hHeld => ?_)
            clear hK K
            refine norm_ (a' := ?_) ?_ ?_
            rotate_left
            · show Act.put _ (some 56) _ = _
              simp only [Act.put, List.setIfInBounds_toArray, List.set_cons_zero, List.set_cons_succ, i64_w, i32_w]
              rfl
            refine pure_ (i := 4) (N := some 52) (v := ?_) (a' := ?_) #[true, true, true, true, true, false, false, false, false, false] rfl rfl (any_of HT_.out (by kernel_rfl)) (fun _ _ _ h => h) (Or.inl ⟨by rfl, ?_⟩) ?_ ?_
            rotate_left
            · intro w'
              go_simp
              with_reducible rfl
            rotate_left
            · simp only [Act.put, List.setIfInBounds_toArray, List.set_cons_zero, List.set_cons_succ, i64_w, i32_w]
              rfl
            refine pure_ (i := 5) (N := some 57) (v := ?_) (a' := ?_) #[true, true, true, true, true, true, false, false, false, false] rfl rfl (any_of HT_.out (by kernel_rfl)) (fun _ _ _ h => h) (Or.inl ⟨by rfl, ?_⟩) ?_ ?_
            rotate_left
            · intro w'
              go_simp
              with_reducible rfl
            rotate_left
            · simp only [Act.put, List.setIfInBounds_toArray, List.set_cons_zero, List.set_cons_succ, i64_w, i32_w]
              rfl
            refine pure_ (i := 6) (N := some 58) (v := ?_) (a' := ?_) #[true, true, true, true, true, true, true, false, false, false] rfl rfl (any_of HT_.out (by kernel_rfl)) (fun _ _ _ h => h) (Or.inl ⟨by rfl, ?_⟩) ?_ ?_
            rotate_left
            · intro w'
              go_simp
              with_reducible rfl
            rotate_left
            · simp only [Act.put, List.setIfInBounds_toArray, List.set_cons_zero, List.set_cons_succ, i64_w, i32_w]
              rfl
            refine one_ (i := 7) (N := some 10) #[true, true, true, true, true, true, true, true, false, false] rfl rfl (one_of HT_.out (by kernel_rfl)) (by decide) (fun K hK => ?_)
            refine box_step ?hg (N := 10) ?hd (cs := #[.int .i64 0, .int .i64 0]) (t := 30) ?hr ?_; (case hd => rfl); (case hg => rfl); (case hr => first | (go_simp; done) | (go_simp; rfl))
            intro gb268 hg w150 hbox hb
            have n0_ := Aside0.mk (blk_below (g := gb244) (o := .cells #[.int .i64 t240, .int .i64 t241] 30 (0, 0)) BK244.out hb)
            have n1_ := Aside0.mk (blk_below (g := gb245) (o := .cells #[.int .i64 t242, .int .i64 t243] 30 (0, 0)) BK245.out hb)
            have n2_ := Aside0.mk (blk_below (g := gb249) (o := .cells #[.int .i64 t246, .int .i64 t247] 30 (0, 0)) BK249.out hb)
            have n3_ := Aside0.mk (blk_below (g := gb253) (o := .cells #[.int .i64 t250, .int .i64 t251] 30 (0, 0)) BK253.out hb)
            have n4_ := Aside0.mk (below_step HB.out hb)
            have n5_ := Aside0.mk (hbox)
            have n6_ := Aside0.mk ((by rw [hg]; exact (below_size HB.out) : w.heap.size ≤ gb268))
            have n7_ := Aside0.mk ((by rw [hg]; exact (below_size HB.out) : w.heap.size ≤ gb268))
            have n8_ := Aside0.mk ((by rw [hg]; exact Nat.ne_of_lt (blk_lt (g := gb244) (o := .cells #[.int .i64 t240, .int .i64 t241] 30 (0, 0)) BK244.out) : gb244 ≠ gb268))
            have n9_ := Aside0.mk ((by rw [hg]; exact Nat.ne_of_gt (blk_lt (g := gb244) (o := .cells #[.int .i64 t240, .int .i64 t241] 30 (0, 0)) BK244.out) : gb268 ≠ gb244))
            have n10_ := Aside0.mk ((by rw [hg]; exact Nat.ne_of_lt (blk_lt (g := gb245) (o := .cells #[.int .i64 t242, .int .i64 t243] 30 (0, 0)) BK245.out) : gb245 ≠ gb268))
            have n11_ := Aside0.mk ((by rw [hg]; exact Nat.ne_of_gt (blk_lt (g := gb245) (o := .cells #[.int .i64 t242, .int .i64 t243] 30 (0, 0)) BK245.out) : gb268 ≠ gb245))
            have n12_ := Aside0.mk ((by rw [hg]; exact Nat.ne_of_lt (blk_lt (g := gb249) (o := .cells #[.int .i64 t246, .int .i64 t247] 30 (0, 0)) BK249.out) : gb249 ≠ gb268))
            have n13_ := Aside0.mk ((by rw [hg]; exact Nat.ne_of_gt (blk_lt (g := gb249) (o := .cells #[.int .i64 t246, .int .i64 t247] 30 (0, 0)) BK249.out) : gb268 ≠ gb249))
            have n14_ := Aside0.mk ((by rw [hg]; exact Nat.ne_of_lt (blk_lt (g := gb253) (o := .cells #[.int .i64 t250, .int .i64 t251] 30 (0, 0)) BK253.out) : gb253 ≠ gb268))
            have n15_ := Aside0.mk ((by rw [hg]; exact Nat.ne_of_gt (blk_lt (g := gb253) (o := .cells #[.int .i64 t250, .int .i64 t251] 30 (0, 0)) BK253.out) : gb268 ≠ gb253))
            clear BK244 BK245 BK249 BK253 HB
            have BK244 := n0_; have BK245 := n1_; have BK249 := n2_; have BK253 := n3_; have HB := n4_; have BK268 := n5_; have GW268 := n6_; have GE268 := n7_; have NB244_268 := n8_; have NB268_244 := n9_; have NB245_268 := n10_; have NB268_245 := n11_; have NB249_268 := n12_; have NB268_249 := n13_; have NB253_268 := n14_; have NB268_253 := n15_
            clear n0_ n1_ n2_ n3_ n4_ n5_ n6_ n7_ n8_ n9_ n10_ n11_ n12_ n13_ n14_ n15_
            clear hb hbox hg
            refine hK.out _ _ ⟨(blk_cell BK244.out 0).trans rfl, (blk_cell BK244.out 1).trans rfl, (blk_cell BK245.out 0).trans rfl, (blk_cell BK245.out 1).trans rfl⟩ (fun hHeld => ?_)
            clear hK K
            refine norm_ (a' := ?_) ?_ ?_
            rotate_left
            · show Act.put _ (some 10) _ = _
              simp only [Act.put, List.setIfInBounds_toArray, List.set_cons_zero, List.set_cons_succ, i64_w, i32_w]
              rfl
            exact norm_ (by simp only [putAll, Act.put, List.setIfInBounds_toArray, List.set_cons_zero, List.set_cons_succ]) (hCont (gb268) _ ⟨hHeld, BK244.out, BK245.out, BK249.out, BK253.out, BK268.out, GW268.out, GE268.out, NB244_268.out, NB268_244.out, NB245_268.out, NB268_245.out, NB249_268.out, NB268_249.out, NB253_268.out, NB268_253.out, HB.out⟩)
          · skip
            refine box_step ?hg (N := 10) ?hd (cs := #[.int .i64 0, .int .i64 0]) (t := 30) ?hr ?_; (case hd => rfl); (case hg => rfl); (case hr => first | (go_simp; done) | (go_simp; rfl))
            intro gb268 hg w149 hbox hb
            have n0_ := Aside0.mk (blk_below (g := gb244) (o := .cells #[.int .i64 t240, .int .i64 t241] 30 (0, 0)) BK244.out hb)
            have n1_ := Aside0.mk (blk_below (g := gb245) (o := .cells #[.int .i64 t242, .int .i64 t243] 30 (0, 0)) BK245.out hb)
            have n2_ := Aside0.mk (blk_below (g := gb249) (o := .cells #[.int .i64 t246, .int .i64 t247] 30 (0, 0)) BK249.out hb)
            have n3_ := Aside0.mk (blk_below (g := gb253) (o := .cells #[.int .i64 t250, .int .i64 t251] 30 (0, 0)) BK253.out hb)
            have n4_ := Aside0.mk (below_step HB.out hb)
            have n5_ := Aside0.mk (hbox)
            have n6_ := Aside0.mk ((by rw [hg]; exact (below_size HB.out) : w.heap.size ≤ gb268))
            have n7_ := Aside0.mk ((by rw [hg]; exact (below_size HB.out) : w.heap.size ≤ gb268))
            have n8_ := Aside0.mk ((by rw [hg]; exact Nat.ne_of_lt (blk_lt (g := gb244) (o := .cells #[.int .i64 t240, .int .i64 t241] 30 (0, 0)) BK244.out) : gb244 ≠ gb268))
            have n9_ := Aside0.mk ((by rw [hg]; exact Nat.ne_of_gt (blk_lt (g := gb244) (o := .cells #[.int .i64 t240, .int .i64 t241] 30 (0, 0)) BK244.out) : gb268 ≠ gb244))
            have n10_ := Aside0.mk ((by rw [hg]; exact Nat.ne_of_lt (blk_lt (g := gb245) (o := .cells #[.int .i64 t242, .int .i64 t243] 30 (0, 0)) BK245.out) : gb245 ≠ gb268))
            have n11_ := Aside0.mk ((by rw [hg]; exact Nat.ne_of_gt (blk_lt (g := gb245) (o := .cells #[.int .i64 t242, .int .i64 t243] 30 (0, 0)) BK245.out) : gb268 ≠ gb245))
            have n12_ := Aside0.mk ((by rw [hg]; exact Nat.ne_of_lt (blk_lt (g := gb249) (o := .cells #[.int .i64 t246, .int .i64 t247] 30 (0, 0)) BK249.out) : gb249 ≠ gb268))
            have n13_ := Aside0.mk ((by rw [hg]; exact Nat.ne_of_gt (blk_lt (g := gb249) (o := .cells #[.int .i64 t246, .int .i64 t247] 30 (0, 0)) BK249.out) : gb268 ≠ gb249))
            have n14_ := Aside0.mk ((by rw [hg]; exact Nat.ne_of_lt (blk_lt (g := gb253) (o := .cells #[.int .i64 t250, .int .i64 t251] 30 (0, 0)) BK253.out) : gb253 ≠ gb268))
            have n15_ := Aside0.mk ((by rw [hg]; exact Nat.ne_of_gt (blk_lt (g := gb253) (o := .cells #[.int .i64 t250, .int .i64 t251] 30 (0, 0)) BK253.out) : gb268 ≠ gb253))
            clear BK244 BK245 BK249 BK253 HB
            have BK244 := n0_; have BK245 := n1_; have BK249 := n2_; have BK253 := n3_; have HB := n4_; have BK268 := n5_; have GW268 := n6_; have GE268 := n7_; have NB244_268 := n8_; have NB268_244 := n9_; have NB245_268 := n10_; have NB268_245 := n11_; have NB249_268 := n12_; have NB268_249 := n13_; have NB253_268 := n14_; have NB268_253 := n15_
            clear n0_ n1_ n2_ n3_ n4_ n5_ n6_ n7_ n8_ n9_ n10_ n11_ n12_ n13_ n14_ n15_
            clear hb hbox hg
            refine hK.out _ _ ⟨(blk_cell BK244.out 0).trans rfl, (blk_cell BK244.out 1).trans rfl, (blk_cell BK245.out 0).trans rfl, (blk_cell BK245.out 1).trans rfl⟩ (fun hHeld => ?_)
            clear hK K
            refine norm_ (a' := ?_) ?_ ?_
            rotate_left
            · show Act.put _ (some 10) _ = _
              simp only [Act.put, List.setIfInBounds_toArray, List.set_cons_zero, List.set_cons_succ, i64_w, i32_w]
              rfl
            refine one_ (i := 3) (N := some 56) #[true, true, true, true, false, false, false, true, false, false] rfl rfl (one_of HT_.out (by kernel_rfl)) (by decide) (fun K hK => ?_)
            refine goes_ Try.func27 (by kernel_rfl) rfl #[.agg #[.int .i64 t263, .int .i64 t264], .agg #[.int .i64 t242, .int .i64 t243]] (by rfl) rfl rfl (by (try simp only [List.map_toArray, List.map_cons, List.map_nil]); first | done | rfl | (simp only [List.length_drop, List.length_take]; rfl)) ?_
            with_reducible refine (impl_SpanDiv.calls kj5 t263 t264 t242 t243 t265 t266 t267 _ A106.out).mono ?_
            rintro e w150 ⟨rfl, hb⟩
            refine ⟨_, rfl, ?_⟩
            have n0_ := Aside0.mk (blk_below (g := gb244) (o := .cells #[.int .i64 t240, .int .i64 t241] 30 (0, 0)) BK244.out hb)
            have n1_ := Aside0.mk (blk_below (g := gb245) (o := .cells #[.int .i64 t242, .int .i64 t243] 30 (0, 0)) BK245.out hb)
            have n2_ := Aside0.mk (blk_below (g := gb249) (o := .cells #[.int .i64 t246, .int .i64 t247] 30 (0, 0)) BK249.out hb)
            have n3_ := Aside0.mk (blk_below (g := gb253) (o := .cells #[.int .i64 t250, .int .i64 t251] 30 (0, 0)) BK253.out hb)
            have n4_ := Aside0.mk (blk_below (g := gb268) (o := .cells #[.int .i64 0, .int .i64 0] 30 (0, 0)) BK268.out hb)
            have n5_ := Aside0.mk (below_step HB.out hb)
            clear BK244 BK245 BK249 BK253 BK268 HB
            have BK244 := n0_; have BK245 := n1_; have BK249 := n2_; have BK253 := n3_; have BK268 := n4_; have HB := n5_
            clear n0_ n1_ n2_ n3_ n4_ n5_
            (try clear hb)
            (try clear hb2)
            (try clear hk)
            (try clear hi)
            refine hK.out _ _ ⟨(blk_cell BK244.out 0).trans rfl, (blk_cell BK244.out 1).trans rfl, (blk_cell BK245.out 0).trans rfl, (blk_cell BK245.out 1).trans rfl⟩ (fun hHeld => ?_)
            clear hK K
            refine norm_ (a' := ?_) ?_ ?_
            rotate_left
            · show Act.put _ (some 56) _ = _
              simp only [Act.put, List.setIfInBounds_toArray, List.set_cons_zero, List.set_cons_succ, i64_w, i32_w]
              rfl
            refine pure_ (i := 4) (N := some 52) (v := ?_) (a' := ?_) #[true, true, true, true, true, false, false, true, false, false] rfl rfl (any_of HT_.out (by kernel_rfl)) (fun _ _ _ h => h) (Or.inl ⟨by rfl, ?_⟩) ?_ ?_
            rotate_left
            · intro w'
              go_simp
              with_reducible rfl
            rotate_left
            · simp only [Act.put, List.setIfInBounds_toArray, List.set_cons_zero, List.set_cons_succ, i64_w, i32_w]
              rfl
            refine pure_ (i := 5) (N := some 57) (v := ?_) (a' := ?_) #[true, true, true, true, true, true, false, true, false, false] rfl rfl (any_of HT_.out (by kernel_rfl)) (fun _ _ _ h => h) (Or.inl ⟨by rfl, ?_⟩) ?_ ?_
            rotate_left
            · intro w'
              go_simp
              with_reducible rfl
            rotate_left
            · simp only [Act.put, List.setIfInBounds_toArray, List.set_cons_zero, List.set_cons_succ, i64_w, i32_w]
              rfl
            refine pure_ (i := 6) (N := some 58) (v := ?_) (a' := ?_) #[true, true, true, true, true, true, true, true, false, false] rfl rfl (any_of HT_.out (by kernel_rfl)) (fun _ _ _ h => h) (Or.inl ⟨by rfl, ?_⟩) ?_ ?_
            rotate_left
            · intro w'
              go_simp
              with_reducible rfl
            rotate_left
            · simp only [Act.put, List.setIfInBounds_toArray, List.set_cons_zero, List.set_cons_succ, i64_w, i32_w]
              rfl
            exact norm_ (by simp only [putAll, Act.put, List.setIfInBounds_toArray, List.set_cons_zero, List.set_cons_succ]) (hCont (gb268) _ ⟨hHeld, BK244.out, BK245.out, BK249.out, BK253.out, BK268.out, GW268.out, GE268.out, NB244_268.out, NB268_244.out, NB245_268.out, NB268_245.out, NB249_268.out, NB268_249.out, NB253_268.out, NB268_253.out, HB.out⟩)
        · skip
          refine box_step ?hg (N := 10) ?hd (cs := #[.int .i64 0, .int .i64 0]) (t := 30) ?hr ?_; (case hd => rfl); (case hg => rfl); (case hr => first | (go_simp; done) | (go_simp; rfl))
          intro gb268 hg w148 hbox hb
          have n0_ := Aside0.mk (blk_below (g := gb244) (o := .cells #[.int .i64 t240, .int .i64 t241] 30 (0, 0)) BK244.out hb)
          have n1_ := Aside0.mk (blk_below (g := gb245) (o := .cells #[.int .i64 t242, .int .i64 t243] 30 (0, 0)) BK245.out hb)
          have n2_ := Aside0.mk (blk_below (g := gb249) (o := .cells #[.int .i64 t246, .int .i64 t247] 30 (0, 0)) BK249.out hb)
          have n3_ := Aside0.mk (blk_below (g := gb253) (o := .cells #[.int .i64 t250, .int .i64 t251] 30 (0, 0)) BK253.out hb)
          have n4_ := Aside0.mk (below_step HB.out hb)
          have n5_ := Aside0.mk (hbox)
          have n6_ := Aside0.mk ((by rw [hg]; exact (below_size HB.out) : w.heap.size ≤ gb268))
          have n7_ := Aside0.mk ((by rw [hg]; exact (below_size HB.out) : w.heap.size ≤ gb268))
          have n8_ := Aside0.mk ((by rw [hg]; exact Nat.ne_of_lt (blk_lt (g := gb244) (o := .cells #[.int .i64 t240, .int .i64 t241] 30 (0, 0)) BK244.out) : gb244 ≠ gb268))
          have n9_ := Aside0.mk ((by rw [hg]; exact Nat.ne_of_gt (blk_lt (g := gb244) (o := .cells #[.int .i64 t240, .int .i64 t241] 30 (0, 0)) BK244.out) : gb268 ≠ gb244))
          have n10_ := Aside0.mk ((by rw [hg]; exact Nat.ne_of_lt (blk_lt (g := gb245) (o := .cells #[.int .i64 t242, .int .i64 t243] 30 (0, 0)) BK245.out) : gb245 ≠ gb268))
          have n11_ := Aside0.mk ((by rw [hg]; exact Nat.ne_of_gt (blk_lt (g := gb245) (o := .cells #[.int .i64 t242, .int .i64 t243] 30 (0, 0)) BK245.out) : gb268 ≠ gb245))
          have n12_ := Aside0.mk ((by rw [hg]; exact Nat.ne_of_lt (blk_lt (g := gb249) (o := .cells #[.int .i64 t246, .int .i64 t247] 30 (0, 0)) BK249.out) : gb249 ≠ gb268))
          have n13_ := Aside0.mk ((by rw [hg]; exact Nat.ne_of_gt (blk_lt (g := gb249) (o := .cells #[.int .i64 t246, .int .i64 t247] 30 (0, 0)) BK249.out) : gb268 ≠ gb249))
          have n14_ := Aside0.mk ((by rw [hg]; exact Nat.ne_of_lt (blk_lt (g := gb253) (o := .cells #[.int .i64 t250, .int .i64 t251] 30 (0, 0)) BK253.out) : gb253 ≠ gb268))
          have n15_ := Aside0.mk ((by rw [hg]; exact Nat.ne_of_gt (blk_lt (g := gb253) (o := .cells #[.int .i64 t250, .int .i64 t251] 30 (0, 0)) BK253.out) : gb268 ≠ gb253))
          clear BK244 BK245 BK249 BK253 HB
          have BK244 := n0_; have BK245 := n1_; have BK249 := n2_; have BK253 := n3_; have HB := n4_; have BK268 := n5_; have GW268 := n6_; have GE268 := n7_; have NB244_268 := n8_; have NB268_244 := n9_; have NB245_268 := n10_; have NB268_245 := n11_; have NB249_268 := n12_; have NB268_249 := n13_; have NB253_268 := n14_; have NB268_253 := n15_
          clear n0_ n1_ n2_ n3_ n4_ n5_ n6_ n7_ n8_ n9_ n10_ n11_ n12_ n13_ n14_ n15_
          clear hb hbox hg
          refine hK.out _ _ ⟨(blk_cell BK244.out 0).trans rfl, (blk_cell BK244.out 1).trans rfl, (blk_cell BK245.out 0).trans rfl, (blk_cell BK245.out 1).trans rfl⟩ (fun hHeld => ?_)
          clear hK K
          refine norm_ (a' := ?_) ?_ ?_
          rotate_left
          · show Act.put _ (some 10) _ = _
            simp only [Act.put, List.setIfInBounds_toArray, List.set_cons_zero, List.set_cons_succ, i64_w, i32_w]
            rfl
          refine one_ (i := 1) (N := some 54) #[true, true, true, false, false, false, false, true, false, false] rfl rfl (one_of HT_.out (by kernel_rfl)) (by decide) (fun K hK => ?_)
          refine goes_ Try.func29 (by kernel_rfl) rfl #[.agg #[.int .i64 t240, .int .i64 t241]] (by rfl) rfl rfl (by (try simp only [List.map_toArray, List.map_cons, List.map_nil]); first | done | rfl | (simp only [List.length_drop, List.length_take]; rfl)) ?_
          with_reducible refine (impl_SpanNeg.calls t240 t241 t263 t264 _ A105.out).mono ?_
          rintro e w149 ⟨rfl, hb⟩
          refine ⟨_, rfl, ?_⟩
          have n0_ := Aside0.mk (blk_below (g := gb244) (o := .cells #[.int .i64 t240, .int .i64 t241] 30 (0, 0)) BK244.out hb)
          have n1_ := Aside0.mk (blk_below (g := gb245) (o := .cells #[.int .i64 t242, .int .i64 t243] 30 (0, 0)) BK245.out hb)
          have n2_ := Aside0.mk (blk_below (g := gb249) (o := .cells #[.int .i64 t246, .int .i64 t247] 30 (0, 0)) BK249.out hb)
          have n3_ := Aside0.mk (blk_below (g := gb253) (o := .cells #[.int .i64 t250, .int .i64 t251] 30 (0, 0)) BK253.out hb)
          have n4_ := Aside0.mk (blk_below (g := gb268) (o := .cells #[.int .i64 0, .int .i64 0] 30 (0, 0)) BK268.out hb)
          have n5_ := Aside0.mk (below_step HB.out hb)
          clear BK244 BK245 BK249 BK253 BK268 HB
          have BK244 := n0_; have BK245 := n1_; have BK249 := n2_; have BK253 := n3_; have BK268 := n4_; have HB := n5_
          clear n0_ n1_ n2_ n3_ n4_ n5_
          (try clear hb)
          (try clear hb2)
          (try clear hk)
          (try clear hi)
          refine hK.out _ _ ⟨(blk_cell BK244.out 0).trans rfl, (blk_cell BK244.out 1).trans rfl, (blk_cell BK245.out 0).trans rfl, (blk_cell BK245.out 1).trans rfl⟩ (fun hHeld => ?_)
          clear hK K
          refine norm_ (a' := ?_) ?_ ?_
          rotate_left
          · show Act.put _ (some 54) _ = _
            simp only [Act.put, List.setIfInBounds_toArray, List.set_cons_zero, List.set_cons_succ, i64_w, i32_w]
            rfl
          refine one_ (i := 3) (N := some 56) #[true, true, true, true, false, false, false, true, false, false] rfl rfl (one_of HT_.out (by kernel_rfl)) (by decide) (fun K hK => ?_)
          refine goes_ Try.func27 (by kernel_rfl) rfl #[.agg #[.int .i64 t263, .int .i64 t264], .agg #[.int .i64 t242, .int .i64 t243]] (by rfl) rfl rfl (by (try simp only [List.map_toArray, List.map_cons, List.map_nil]); first | done | rfl | (simp only [List.length_drop, List.length_take]; rfl)) ?_
          with_reducible refine (impl_SpanDiv.calls kj5 t263 t264 t242 t243 t265 t266 t267 _ A106.out).mono ?_
          rintro e w150 ⟨rfl, hb⟩
          refine ⟨_, rfl, ?_⟩
          have n0_ := Aside0.mk (blk_below (g := gb244) (o := .cells #[.int .i64 t240, .int .i64 t241] 30 (0, 0)) BK244.out hb)
          have n1_ := Aside0.mk (blk_below (g := gb245) (o := .cells #[.int .i64 t242, .int .i64 t243] 30 (0, 0)) BK245.out hb)
          have n2_ := Aside0.mk (blk_below (g := gb249) (o := .cells #[.int .i64 t246, .int .i64 t247] 30 (0, 0)) BK249.out hb)
          have n3_ := Aside0.mk (blk_below (g := gb253) (o := .cells #[.int .i64 t250, .int .i64 t251] 30 (0, 0)) BK253.out hb)
          have n4_ := Aside0.mk (blk_below (g := gb268) (o := .cells #[.int .i64 0, .int .i64 0] 30 (0, 0)) BK268.out hb)
          have n5_ := Aside0.mk (below_step HB.out hb)
          clear BK244 BK245 BK249 BK253 BK268 HB
          have BK244 := n0_; have BK245 := n1_; have BK249 := n2_; have BK253 := n3_; have BK268 := n4_; have HB := n5_
          clear n0_ n1_ n2_ n3_ n4_ n5_
          (try clear hb)
          (try clear hb2)
          (try clear hk)
          (try clear hi)
          refine hK.out _ _ ⟨(blk_cell BK244.out 0).trans rfl, (blk_cell BK244.out 1).trans rfl, (blk_cell BK245.out 0).trans rfl, (blk_cell BK245.out 1).trans rfl⟩ (fun hHeld => ?_)
          clear hK K
          refine norm_ (a' := ?_) ?_ ?_
          rotate_left
          · show Act.put _ (some 56) _ = _
            simp only [Act.put, List.setIfInBounds_toArray, List.set_cons_zero, List.set_cons_succ, i64_w, i32_w]
            rfl
          refine pure_ (i := 4) (N := some 52) (v := ?_) (a' := ?_) #[true, true, true, true, true, false, false, true, false, false] rfl rfl (any_of HT_.out (by kernel_rfl)) (fun _ _ _ h => h) (Or.inl ⟨by rfl, ?_⟩) ?_ ?_
          rotate_left
          · intro w'
            go_simp
            with_reducible rfl
          rotate_left
          · simp only [Act.put, List.setIfInBounds_toArray, List.set_cons_zero, List.set_cons_succ, i64_w, i32_w]
            rfl
          refine pure_ (i := 5) (N := some 57) (v := ?_) (a' := ?_) #[true, true, true, true, true, true, false, true, false, false] rfl rfl (any_of HT_.out (by kernel_rfl)) (fun _ _ _ h => h) (Or.inl ⟨by rfl, ?_⟩) ?_ ?_
          rotate_left
          · intro w'
            go_simp
            with_reducible rfl
          rotate_left
          · simp only [Act.put, List.setIfInBounds_toArray, List.set_cons_zero, List.set_cons_succ, i64_w, i32_w]
            rfl
          refine pure_ (i := 6) (N := some 58) (v := ?_) (a' := ?_) #[true, true, true, true, true, true, true, true, false, false] rfl rfl (any_of HT_.out (by kernel_rfl)) (fun _ _ _ h => h) (Or.inl ⟨by rfl, ?_⟩) ?_ ?_
          rotate_left
          · intro w'
            go_simp
            with_reducible rfl
          rotate_left
          · simp only [Act.put, List.setIfInBounds_toArray, List.set_cons_zero, List.set_cons_succ, i64_w, i32_w]
            rfl
          exact norm_ (by simp only [putAll, Act.put, List.setIfInBounds_toArray, List.set_cons_zero, List.set_cons_succ]) (hCont (gb268) _ ⟨hHeld, BK244.out, BK245.out, BK249.out, BK253.out, BK268.out, GW268.out, GE268.out, NB244_268.out, NB268_244.out, NB245_268.out, NB268_245.out, NB249_268.out, NB268_249.out, NB253_268.out, NB268_253.out, HB.out⟩)
      rintro gb268 w151 ⟨hS_, h0_, h1_, h2_, h3_, h4_, h5_, h6_, h7_, h8_, h9_, h10_, h11_, h12_, h13_, h14_, h15_⟩
      have n0_ : Aside0 (w151.heap[gb244]? = some (.cells #[.int .i64 t240, .int .i64 t241] 30 (0, 0))) := ⟨h0_⟩
      have n1_ : Aside0 (w151.heap[gb245]? = some (.cells #[.int .i64 t242, .int .i64 t243] 30 (0, 0))) := ⟨h1_⟩
      have n2_ : Aside0 (w151.heap[gb249]? = some (.cells #[.int .i64 t246, .int .i64 t247] 30 (0, 0))) := ⟨h2_⟩
      have n3_ : Aside0 (w151.heap[gb253]? = some (.cells #[.int .i64 t250, .int .i64 t251] 30 (0, 0))) := ⟨h3_⟩
      have n4_ : Aside0 (w151.heap[gb268]? = some (.cells #[.int .i64 0, .int .i64 0] 30 (0, 0))) := ⟨h4_⟩
      have n5_ : Aside0 (w.heap.size ≤ gb268) := ⟨h5_⟩
      have n6_ : Aside0 (w.heap.size ≤ gb268) := ⟨h6_⟩
      have n7_ : Aside0 (gb244 ≠ gb268) := ⟨h7_⟩
      have n8_ : Aside0 (gb268 ≠ gb244) := ⟨h8_⟩
      have n9_ : Aside0 (gb245 ≠ gb268) := ⟨h9_⟩
      have n10_ : Aside0 (gb268 ≠ gb245) := ⟨h10_⟩
      have n11_ : Aside0 (gb249 ≠ gb268) := ⟨h11_⟩
      have n12_ : Aside0 (gb268 ≠ gb249) := ⟨h12_⟩
      have n13_ : Aside0 (gb253 ≠ gb268) := ⟨h13_⟩
      have n14_ : Aside0 (gb268 ≠ gb253) := ⟨h14_⟩
      have n15_ : Aside0 (Below w.heap.size w w151) := ⟨h15_⟩
      clear BK244 BK245 BK249 BK253 HB
      clear h0_ h1_ h2_ h3_ h4_ h5_ h6_ h7_ h8_ h9_ h10_ h11_ h12_ h13_ h14_ h15_
      have BK244 := n0_; have BK245 := n1_; have BK249 := n2_; have BK253 := n3_; have BK268 := n4_; have GW268 := n5_; have GE268 := n6_; have NB244_268 := n7_; have NB268_244 := n8_; have NB245_268 := n9_; have NB268_245 := n10_; have NB249_268 := n11_; have NB268_249 := n12_; have NB253_268 := n13_; have NB268_253 := n14_; have HB := n15_
      clear n0_ n1_ n2_ n3_ n4_ n5_ n6_ n7_ n8_ n9_ n10_ n11_ n12_ n13_ n14_ n15_
      have hHeld : w151.cell? ⟨gb244, 0, none⟩ = some (.int .i64 t240) ∧ w151.cell? ⟨gb244, 1, none⟩ = some (.int .i64 t241) ∧ w151.cell? ⟨gb245, 0, none⟩ = some (.int .i64 t242) ∧ w151.cell? ⟨gb245, 1, none⟩ = some (.int .i64 t243) := hS_
      refine norm_ (a' := ?_) ?_ ?_
      rotate_left
      · simp only [putAll, Act.put, List.setIfInBounds_toArray, List.set_cons_zero, List.set_cons_succ]
        rfl
      refine one_ (i := 8) (N := none) #[true, true, true, true, true, true, true, true, true, false] rfl rfl (one_of HT_.out (by kernel_rfl)) (by decide) (fun K hK => ?_)
      have hs152 : w151.cell? ⟨gb268, 0, none⟩ = some (.int .i64 0) := (blk_cell BK268.out 0).trans rfl
      have hfs152 := blk_frozen BK268.out 0
      have hns152_0 := NB244_268.out
      have hns152_1 := NB245_268.out
      have hns152_2 := NB249_268.out
      have hns152_3 := NB253_268.out
      have hms152_0 := NB268_244.out
      have hms152_1 := NB268_245.out
      have hms152_2 := NB268_249.out
      have hms152_3 := NB268_253.out
      have hs153 : w151.cell? ⟨gb268, 1, none⟩ = some (.int .i64 0) := (blk_cell BK268.out 1).trans rfl
      have hfs153 := blk_frozen BK268.out 1
      have hns153_0 := NB244_268.out
      have hns153_1 := NB245_268.out
      have hns153_2 := NB249_268.out
      have hns153_3 := NB253_268.out
      have hms153_0 := NB268_244.out
      have hms153_1 := NB268_245.out
      have hms153_2 := NB268_249.out
      have hms153_3 := NB268_253.out
      refine skip_ (w1 := ?_) (by rfl) rfl ?_ ?_
      rotate_left
      · go_simp
        rfl
      refine hK.out _ _ ⟨((cell_far (p := ⟨gb268, _, none⟩) NB244_268.out _).trans (((cell_far (p := ⟨gb268, _, none⟩) NB244_268.out _).trans (hHeld.1)))), ((cell_far (p := ⟨gb268, _, none⟩) NB244_268.out _).trans (((cell_far (p := ⟨gb268, _, none⟩) NB244_268.out _).trans (hHeld.2.1)))), ((cell_far (p := ⟨gb268, _, none⟩) NB245_268.out _).trans (((cell_far (p := ⟨gb268, _, none⟩) NB245_268.out _).trans (hHeld.2.2.1)))), ((cell_far (p := ⟨gb268, _, none⟩) NB245_268.out _).trans (((cell_far (p := ⟨gb268, _, none⟩) NB245_268.out _).trans (hHeld.2.2.2))))⟩ (fun hHeld => ?_)
      clear hK K
      refine pure_ (i := 9) (N := some 11) (v := ?_) (a' := ?_) #[true, true, true, true, true, true, true, true, true, true] rfl rfl (any_of HT_.out (by kernel_rfl)) (fun _ _ _ h => h) (Or.inl ⟨by rfl, ?_⟩) ?_ ?_
      rotate_left
      · intro w'
        go_simp
        with_reducible rfl
      rotate_left
      · simp only [Act.put, List.setIfInBounds_toArray, List.set_cons_zero, List.set_cons_succ, i64_w, i32_w]
        rfl
      refine done_ (done_of HT_.out (by kernel_rfl)) ?_
      try go_wp2
      have n0_ : Aside0 (((w151.setCell ⟨gb268, 0, none⟩ (.int .i64 t265)).setCell ⟨gb268, 1, none⟩ (.int .i64 t266)).heap[gb244]? = some (.cells #[.int .i64 t240, .int .i64 t241] 30 (0, 0))) := ⟨by (with_reducible repeat (first | refine blk_drewN ?_ _ | refine blk_drew ?_ | refine blk_alloc ?_ _)); refine blk_far ?_ NB244_268.out _; (with_reducible repeat (first | refine blk_drewN ?_ _ | refine blk_drew ?_ | refine blk_alloc ?_ _)); refine blk_far ?_ NB244_268.out _; (with_reducible repeat (first | refine blk_drewN ?_ _ | refine blk_drew ?_ | refine blk_alloc ?_ _)); exact BK244.out⟩
      have n1_ : Aside0 (((w151.setCell ⟨gb268, 0, none⟩ (.int .i64 t265)).setCell ⟨gb268, 1, none⟩ (.int .i64 t266)).heap[gb245]? = some (.cells #[.int .i64 t242, .int .i64 t243] 30 (0, 0))) := ⟨by (with_reducible repeat (first | refine blk_drewN ?_ _ | refine blk_drew ?_ | refine blk_alloc ?_ _)); refine blk_far ?_ NB245_268.out _; (with_reducible repeat (first | refine blk_drewN ?_ _ | refine blk_drew ?_ | refine blk_alloc ?_ _)); refine blk_far ?_ NB245_268.out _; (with_reducible repeat (first | refine blk_drewN ?_ _ | refine blk_drew ?_ | refine blk_alloc ?_ _)); exact BK245.out⟩
      have n2_ : Aside0 (((w151.setCell ⟨gb268, 0, none⟩ (.int .i64 t265)).setCell ⟨gb268, 1, none⟩ (.int .i64 t266)).heap[gb249]? = some (.cells #[.int .i64 t246, .int .i64 t247] 30 (0, 0))) := ⟨by (with_reducible repeat (first | refine blk_drewN ?_ _ | refine blk_drew ?_ | refine blk_alloc ?_ _)); refine blk_far ?_ NB249_268.out _; (with_reducible repeat (first | refine blk_drewN ?_ _ | refine blk_drew ?_ | refine blk_alloc ?_ _)); refine blk_far ?_ NB249_268.out _; (with_reducible repeat (first | refine blk_drewN ?_ _ | refine blk_drew ?_ | refine blk_alloc ?_ _)); exact BK249.out⟩
      have n3_ : Aside0 (((w151.setCell ⟨gb268, 0, none⟩ (.int .i64 t265)).setCell ⟨gb268, 1, none⟩ (.int .i64 t266)).heap[gb253]? = some (.cells #[.int .i64 t250, .int .i64 t251] 30 (0, 0))) := ⟨by (with_reducible repeat (first | refine blk_drewN ?_ _ | refine blk_drew ?_ | refine blk_alloc ?_ _)); refine blk_far ?_ NB253_268.out _; (with_reducible repeat (first | refine blk_drewN ?_ _ | refine blk_drew ?_ | refine blk_alloc ?_ _)); refine blk_far ?_ NB253_268.out _; (with_reducible repeat (first | refine blk_drewN ?_ _ | refine blk_drew ?_ | refine blk_alloc ?_ _)); exact BK253.out⟩
      have n4_ : Aside0 (((w151.setCell ⟨gb268, 0, none⟩ (.int .i64 t265)).setCell ⟨gb268, 1, none⟩ (.int .i64 t266)).heap[gb268]? = some (.cells #[.int .i64 t265, .int .i64 t266] 30 (0, 0))) := ⟨by (with_reducible repeat (first | refine blk_drewN ?_ _ | refine blk_drew ?_ | refine blk_alloc ?_ _)); refine blk_put (cs := #[.int .i64 t265, .int .i64 0]) ?_ 1 _ rfl; (with_reducible repeat (first | refine blk_drewN ?_ _ | refine blk_drew ?_ | refine blk_alloc ?_ _)); refine blk_put (cs := #[.int .i64 0, .int .i64 0]) ?_ 0 _ rfl; (with_reducible repeat (first | refine blk_drewN ?_ _ | refine blk_drew ?_ | refine blk_alloc ?_ _)); exact BK268.out⟩
      have n5_ : Aside0 (Below w.heap.size w ((w151.setCell ⟨gb268, 0, none⟩ (.int .i64 t265)).setCell ⟨gb268, 1, none⟩ (.int .i64 t266))) := ⟨by repeat (first | (with_reducible first | exact HB.out | apply below_alloc | apply pw_below_drewN | apply below_drew1 | refine below_set ?_ GE244.out | refine below_set ?_ GE245.out | refine below_set ?_ GE249.out | refine below_set ?_ GE253.out | refine below_set ?_ GE268.out) | exact HB.out)⟩
      (try clear BK244)
      (try clear BK245)
      (try clear BK249)
      (try clear BK253)
      (try clear BK268)
      (try clear HB)
      generalize ((w151.setCell ⟨gb268, 0, none⟩ (.int .i64 t265)).setCell ⟨gb268, 1, none⟩ (.int .i64 t266)) = w154 at n0_ n1_ n2_ n3_ n4_ n5_ ⊢
      have BK244 := n0_; have BK245 := n1_; have BK249 := n2_; have BK253 := n3_; have BK268 := n4_; have HB := n5_
      clear n0_ n1_ n2_ n3_ n4_ n5_
      have n0_ := Aside0.mk (blk_drew BK244.out)
      have n1_ := Aside0.mk (blk_drew BK245.out)
      have n2_ := Aside0.mk (blk_drew BK249.out)
      have n3_ := Aside0.mk (blk_drew BK253.out)
      have n4_ := Aside0.mk (blk_drew BK268.out)
      have n5_ := Aside0.mk (below_drew1 HB.out)
      clear BK244 BK245 BK249 BK253 BK268 HB
      have BK244 := n0_; have BK245 := n1_; have BK249 := n2_; have BK253 := n3_; have BK268 := n4_; have HB := n5_
      clear n0_ n1_ n2_ n3_ n4_ n5_
      refine start_ (n := 19) (S := fun w' => True) (ds := []) #[false, false, false, false, false, false, false, false, false, false, false, false, false, false, false, false, false, false, false] (by kernel_rfl) rfl rfl trivial (fun hHeld => ?_); refine with_tabW laws_FnSpanDivNone.tab10 laws_FnSpanDivNone.bits10 (fun HT_ HW_ => ?_)
      generalize w154.drew = w155 at BK244 BK245 BK249 BK253 BK268 HB hHeld ⊢
      refine pure_ (i := 0) (N := some 59) (v := ?_) (a' := ?_) #[true, false, false, false, false, false, false, false, false, false, false, false, false, false, false, false, false, false, false] rfl rfl (any_of HT_.out (by kernel_rfl)) (fun _ _ _ h => h) (Or.inl ⟨by rfl, ?_⟩) ?_ ?_
      rotate_left
      · intro w'
        go_simp
        with_reducible rfl
      rotate_left
      · simp only [Act.put, List.setIfInBounds_toArray, List.set_cons_zero, List.set_cons_succ, i64_w, i32_w]
        rfl
      refine pure_ (i := 1) (N := some 60) (v := ?_) (a' := ?_) #[true, true, false, false, false, false, false, false, false, false, false, false, false, false, false, false, false, false, false] rfl rfl (any_of HT_.out (by kernel_rfl)) (fun _ _ _ h => h) (Or.inl ⟨by rfl, ?_⟩) ?_ ?_
      rotate_left
      · intro w'
        go_simp
        with_reducible rfl
      rotate_left
      · simp only [Act.put, List.setIfInBounds_toArray, List.set_cons_zero, List.set_cons_succ, i64_w, i32_w]
        rfl
      refine pure_ (i := 2) (N := some 61) (v := undef) (a' := ?_) #[true, true, true, false, false, false, false, false, false, false, false, false, false, false, false, false, false, false, false] rfl rfl (any_of HT_.out (by kernel_rfl)) (fun _ _ _ h => h) (Or.inr ⟨by rfl, rfl⟩) ?_ ?_
      rotate_left
      · simp only [Act.put, List.setIfInBounds_toArray, List.set_cons_zero, List.set_cons_succ, i64_w, i32_w]
        rfl
      refine pure_ (i := 3) (N := some 62) (v := ?_) (a' := ?_) #[true, true, true, true, false, false, false, false, false, false, false, false, false, false, false, false, false, false, false] rfl rfl (any_of HT_.out (by kernel_rfl)) (fun _ _ _ h => h) (Or.inl ⟨by rfl, ?_⟩) ?_ ?_
      rotate_left
      · intro w'
        go_simp
        with_reducible rfl
      rotate_left
      · simp only [Act.put, List.setIfInBounds_toArray, List.set_cons_zero, List.set_cons_succ, i64_w, i32_w]
        rfl
      refine pure_ (i := 4) (N := some 63) (v := ?_) (a' := ?_) #[true, true, true, true, true, false, false, false, false, false, false, false, false, false, false, false, false, false, false] rfl rfl (any_of HT_.out (by kernel_rfl)) (fun _ _ _ h => h) (Or.inl ⟨by rfl, ?_⟩) ?_ ?_
      rotate_left
      · intro w'
        go_simp
        with_reducible rfl
      rotate_left
      · simp only [Act.put, List.setIfInBounds_toArray, List.set_cons_zero, List.set_cons_succ, i64_w, i32_w]
        rfl
      refine pure_ (i := 5) (N := some 64) (v := ?_) (a' := ?_) #[true, true, true, true, true, true, false, false, false, false, false, false, false, false, false, false, false, false, false] rfl rfl (any_of HT_.out (by kernel_rfl)) (fun _ _ _ h => h) (Or.inl ⟨by rfl, ?_⟩) ?_ ?_
      rotate_left
      · intro w'
        go_simp
        with_reducible rfl
      rotate_left
      · simp only [Act.put, List.setIfInBounds_toArray, List.set_cons_zero, List.set_cons_succ, i64_w, i32_w]
        rfl
      refine pure_ (i := 6) (N := some 65) (v := ?_) (a' := ?_) #[true, true, true, true, true, true, true, false, false, false, false, false, false, false, false, false, false, false, false] rfl rfl (any_of HT_.out (by kernel_rfl)) (fun _ _ _ h => h) (Or.inl ⟨by rfl, ?_⟩) ?_ ?_
      rotate_left
      · intro w'
        go_simp
        with_reducible rfl
      rotate_left
      · simp only [Act.put, List.setIfInBounds_toArray, List.set_cons_zero, List.set_cons_succ, i64_w, i32_w]
        rfl
      refine pure_ (i := 7) (N := some 66) (v := ?_) (a' := ?_) #[true, true, true, true, true, true, true, true, false, false, false, false, false, false, false, false, false, false, false] rfl rfl (any_of HT_.out (by kernel_rfl)) (fun _ _ _ h => h) (Or.inl ⟨by rfl, ?_⟩) ?_ ?_
      rotate_left
      · intro w'
        go_simp
        with_reducible rfl
      rotate_left
      · simp only [Act.put, List.setIfInBounds_toArray, List.set_cons_zero, List.set_cons_succ, i64_w, i32_w]
        rfl
      refine pure_ (i := 8) (N := some 67) (v := ?_) (a' := ?_) #[true, true, true, true, true, true, true, true, true, false, false, false, false, false, false, false, false, false, false] rfl rfl (any_of HT_.out (by kernel_rfl)) (fun _ _ _ h => h) (Or.inl ⟨by rfl, ?_⟩) ?_ ?_
      rotate_left
      · intro w'
        go_simp
        with_reducible rfl
      rotate_left
      · simp only [Act.put, List.setIfInBounds_toArray, List.set_cons_zero, List.set_cons_succ, i64_w, i32_w]
        rfl
      refine pure_ (i := 9) (N := some 68) (v := undef) (a' := ?_) #[true, true, true, true, true, true, true, true, true, true, false, false, false, false, false, false, false, false, false] rfl rfl (any_of HT_.out (by kernel_rfl)) (fun _ _ _ h => h) (Or.inr ⟨by rfl, rfl⟩) ?_ ?_
      rotate_left
      · simp only [Act.put, List.setIfInBounds_toArray, List.set_cons_zero, List.set_cons_succ, i64_w, i32_w]
        rfl
      refine pure_ (i := 10) (N := some 69) (v := undef) (a' := ?_) #[true, true, true, true, true, true, true, true, true, true, true, false, false, false, false, false, false, false, false] rfl rfl (any_of HT_.out (by kernel_rfl)) (fun _ _ _ h => h) (Or.inr ⟨by rfl, rfl⟩) ?_ ?_
      rotate_left
      · simp only [Act.put, List.setIfInBounds_toArray, List.set_cons_zero, List.set_cons_succ, i64_w, i32_w]
        rfl
      refine pure_ (i := 11) (N := some 70) (v := undef) (a' := ?_) #[true, true, true, true, true, true, true, true, true, true, true, true, false, false, false, false, false, false, false] rfl rfl (any_of HT_.out (by kernel_rfl)) (fun _ _ _ h => h) (Or.inr ⟨by rfl, rfl⟩) ?_ ?_
      rotate_left
      · simp only [Act.put, List.setIfInBounds_toArray, List.set_cons_zero, List.set_cons_succ, i64_w, i32_w]
        rfl
      refine pure_ (i := 12) (N := some 71) (v := undef) (a' := ?_) #[true, true, true, true, true, true, true, true, true, true, true, true, true, false, false, false, false, false, false] rfl rfl (any_of HT_.out (by kernel_rfl)) (fun _ _ _ h => h) (Or.inr ⟨by rfl, rfl⟩) ?_ ?_
      rotate_left
      · simp only [Act.put, List.setIfInBounds_toArray, List.set_cons_zero, List.set_cons_succ, i64_w, i32_w]
        rfl
      refine pure_ (i := 13) (N := some 72) (v := undef) (a' := ?_) #[true, true, true, true, true, true, true, true, true, true, true, true, true, true, false, false, false, false, false] rfl rfl (any_of HT_.out (by kernel_rfl)) (fun _ _ _ h => h) (Or.inr ⟨by rfl, rfl⟩) ?_ ?_
      rotate_left
      · simp only [Act.put, List.setIfInBounds_toArray, List.set_cons_zero, List.set_cons_succ, i64_w, i32_w]
        rfl
      refine pure_ (i := 14) (N := some 73) (v := undef) (a' := ?_) #[true, true, true, true, true, true, true, true, true, true, true, true, true, true, true, false, false, false, false] rfl rfl (any_of HT_.out (by kernel_rfl)) (fun _ _ _ h => h) (Or.inr ⟨by rfl, rfl⟩) ?_ ?_
      rotate_left
      · simp only [Act.put, List.setIfInBounds_toArray, List.set_cons_zero, List.set_cons_succ, i64_w, i32_w]
        rfl
      refine pure_ (i := 15) (N := some 74) (v := undef) (a' := ?_) #[true, true, true, true, true, true, true, true, true, true, true, true, true, true, true, true, false, false, false] rfl rfl (any_of HT_.out (by kernel_rfl)) (fun _ _ _ h => h) (Or.inr ⟨by rfl, rfl⟩) ?_ ?_
      rotate_left
      · simp only [Act.put, List.setIfInBounds_toArray, List.set_cons_zero, List.set_cons_succ, i64_w, i32_w]
        rfl
      refine pure_ (i := 16) (N := some 75) (v := ?_) (a' := ?_) #[true, true, true, true, true, true, true, true, true, true, true, true, true, true, true, true, true, false, false] rfl rfl (any_of HT_.out (by kernel_rfl)) (fun _ _ _ h => h) (Or.inl ⟨by rfl, ?_⟩) ?_ ?_
      rotate_left
      · intro w'
        go_simp
        with_reducible rfl
      rotate_left
      · simp only [Act.put, List.setIfInBounds_toArray, List.set_cons_zero, List.set_cons_succ, i64_w, i32_w]
        rfl
      refine pure_ (i := 17) (N := some 76) (v := ?_) (a' := ?_) #[true, true, true, true, true, true, true, true, true, true, true, true, true, true, true, true, true, true, false] rfl rfl (any_of HT_.out (by kernel_rfl)) (fun _ _ _ h => h) (Or.inl ⟨by rfl, ?_⟩) ?_ ?_
      rotate_left
      · intro w'
        go_simp
        with_reducible rfl
      rotate_left
      · simp only [Act.put, List.setIfInBounds_toArray, List.set_cons_zero, List.set_cons_succ, i64_w, i32_w]
        rfl
      refine pure_ (i := 18) (N := some 2) (v := ?_) (a' := ?_) #[true, true, true, true, true, true, true, true, true, true, true, true, true, true, true, true, true, true, true] rfl rfl (any_of HT_.out (by kernel_rfl)) (fun _ _ _ h => h) (Or.inl ⟨by rfl, ?_⟩) ?_ ?_
      rotate_left
      · intro w'
        go_simp
        with_reducible rfl
      rotate_left
      · simp only [Act.put, List.setIfInBounds_toArray, List.set_cons_zero, List.set_cons_succ, i64_w, i32_w]
        rfl
      refine done_ (done_of HT_.out (by kernel_rfl)) ?_
      try go_wp2
      go_ret
      exact ⟨by first | rfl | (simp [errW_none, errW_some] <;> rfl) | (simp [*, errW_none, errW_some] <;> rfl), by repeat (first | (with_reducible first | exact HB.out | apply below_alloc | apply pw_below_drewN | apply below_drew1 | refine below_set ?_ GE244.out | refine below_set ?_ GE245.out | refine below_set ?_ GE249.out | refine below_set ?_ GE253.out | refine below_set ?_ GE268.out) | exact HB.out)⟩

/-- THE ONE PURE STATEMENT of laws_FnSpanDivNone: yours. -/
def laws_FnSpanDivNone.Pure : Prop := laws_FnSpanDivNone.Same ∧ ∀ (l0 : List Int), l0.length ≤ maxLen → l0.length * 1 ≤ 140737488351232 → (∀ x ∈ l0, (Lit.int .u8 x).wf = true) → ∃ k, laws_FnSpanDivNone.f k l0 = some true ∧ ∃ b, laws_FnSpanDivNone.Sel b l0
theorem laws_FnSpanDivNone.walk (P : laws_FnSpanDivNone.Pure) (a0 : Option Addr) (len0 cap0 : Nat) (z0 : List Int) (w : World) (w0 : (a0 = none ∧ len0 = 0 ∧ cap0 = 0 ∧ z0 = []) ∨ ∃ x, a0 = some x ∧ len0 ≤ cap0 ∧ cap0 ≤ maxLen ∧ z0.length = cap0 ∧ (∀ i, i < z0.length → w.cell? (x.add i) = some (.int .u8 (z0.getD i 0))) ∧ ∀ n ∈ z0, (Lit.int .u8 n).wf = true) (y0 : len0 * 1 ≤ 140737488351232) :
    Calls Try.prog 10 #[.slice a0 len0 cap0] w fun e w' => e = .returned (.bool true) ∧ Below w.heap.size w w' := by
  obtain ⟨l0, rfl, hr0, hm0, hw0, hc0⟩ := ReadsInt.ofRowC w0
  obtain ⟨k, h, b, hb⟩ := P.2 l0 hm0 y0 hw0
  cases b
  · refine (laws_FnSpanDivNone.calls_false k _ _ l0 true w (Kd.C_of_reads (d := (0 : Int)) (h1 := fun _ => rfl) hr0) hc0 P.1 hb rfl h).mono ?_
    rintro e w' ⟨rfl, hd⟩
    exact ⟨rfl, hd⟩
  · refine (laws_FnSpanDivNone.calls_true k _ _ l0 true w (Kd.C_of_reads (d := (0 : Int)) (h1 := fun _ => rfl) hr0) hc0 P.1 hb rfl h).mono ?_
    rintro e w' ⟨rfl, hd⟩
    exact ⟨rfl, hd⟩

end Go.Proofs.Ytjhlkdmhlgghbaa.PFnSpanDivNone
