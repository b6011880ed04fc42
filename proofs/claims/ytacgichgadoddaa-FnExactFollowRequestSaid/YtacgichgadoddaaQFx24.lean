/- Go functions as Lean functions, each with its walk; printed by a program of this session (a scratch copy of print.py that follows nested field addresses and tells a law for the answer true). -/
import Derived.Test.YtacgichgadoddaaQFx0
import Derived.Test.YtacgichgadoddaaQFx21
import Derived.Test.YtacgichgadoddaaQFx22
import Derived.Test.YtacgichgadoddaaQFxM0
namespace Go.Proofs.Ytacgichgadoddaa.QF
open Go.RowKit Go.Proofs.YtacgichgadoddaaW.PrintWords Go.Proofs.YtacgichgadoddaaW.PrintLast Go.Proofs.YtacgichgadoddaaW.PrintMore Go.Proofs.Ytacgichgadoddaa.Short
attribute [local go_sem] max2_int min2_int max_two min_two max_three min_three max_four min_four 
set_option linter.unusedVariables false
set_option linter.unusedSimpArgs false

/-! ### spec_FollowRequest: function 74 -/
mutual
def spec_FollowRequest.l0 : Nat → List (S35) → Int → Int → Int → Int → Int → Int → List (S33) → Option (Int × Int × Int × (List (S33)))
 | 0, _, _, _, _, _, _, _, _ => none
 | k + 1, x0, x190000, x190001, x190002, x192000, x192001, x192002, x192003 => (spec_IsRequest.f x190000 x190001 x190002).bind fun t192 => (if t192 = true then (if x192003.length < 8796093022208 then ((some (x192003 ++ [(⟨x190000, x190001⟩ : S33)] : List (S33))).bind fun y193 => ((spec_ActionFor.f k x0 x190000 x190001 x190002).bind fun t196 => (if t196 = 1 then (some (1, x190000, x190001, y193)) else (if t196 = 2 then (some (2, x190000, x190001, y193)) else ((spec_DecideRule.f k x0 x190000 x190001 x190002).bind fun t197 => (if 0 ≤ t197 then (if t197 < (x0.length : Int) then ((spec_l18Has.f k y193 ((rd_T35 x0 t197).f5.f0) ((rd_T35 x0 t197).f5.f1)).bind fun t200 => (if t200 = true then (spec_FollowRequest.j1 k x0 true x190000 x190001 x190002 x192000 x190000 x190001 y193 ((rd_T35 x0 t197).f5.f0) ((rd_T35 x0 t197).f5.f1)) else (spec_FollowRequest.j1 k x0 (decide ((y193.length : Int) ≥ 6)) x190000 x190001 x190002 x192000 x190000 x190001 y193 ((rd_T35 x0 t197).f5.f0) ((rd_T35 x0 t197).f5.f1)))) else (none)) else (none))))))) else (none)) else (some (x192000, x192001, x192002, x192003)))
def spec_FollowRequest.j1 : Nat → List (S35) → Bool → Int → Int → Int → Int → Int → Int → List (S33) → Int → Int → Option (Int × Int × Int × (List (S33)))
 | 0, _, _, _, _, _, _, _, _, _, _, _ => none
 | k + 1, x0, x47, x190000, x190001, x190002, x192000, x192001, x192002, x192003, x200000, x200001 => if x47 = true then ((spec_l18Has.f k x192003 x200000 x200001).bind fun t201 => (if t201 = true then (some (3, x200000, x200001, x192003)) else (some (4, x200000, x200001, x192003)))) else (spec_FollowRequest.l0 k x0 x200000 x200001 x190002 x192000 x192001 x192002 x192003)
end
def spec_FollowRequest.f (k : Nat) (l0 : List (S35)) (a1_0 : Int) (a1_1 : Int) (a1_2 : Int) : Option (Int × Int × Int × (List (S33))) := spec_FollowRequest.l0 k l0 a1_0 a1_1 a1_2 0 0 0 ([] : List (S33))
set_option maxHeartbeats 8000000 in
set_option maxRecDepth 100000 in
theorem spec_FollowRequest.calls (k : Nat) (A0 : Option Addr) (c0 : Nat) (l0 : List (S35)) (a1_0 : Int) (a1_1 : Int) (a1_2 : Int) (r1 : Int) (r2 : Int) (r3 : Int) (r4 : List (S33)) (w : World) (hr0 : Kd.C k35 w A0 l0.length l0) (hc0 : l0.length ≤ c0) (h : spec_FollowRequest.f k l0 a1_0 a1_1 a1_2 = some (r1, r2, r3, r4)) :
  Calls Try.prog 74 #[.slice A0 l0.length c0, .agg #[.int .i64 a1_0, .int .i64 a1_1, .int .i64 a1_2]] w fun e w' => ∃ v3_ : Value, e = .returned (.agg #[.int .i64 r1, .int .i64 r2, .int .i64 r3, v3_]) ∧ Kd.R k33 33 w' w.heap.size (fun _ => True) v3_ r4 ∧ Below w.heap.size w w' := by
 have hu86 := Try.underlying86
 have hu105 := Try.underlying105
 have hu33 := Try.underlying33
 have HR0 := Aside0.mk hr0
 have HC0 := Aside0.mk hc0
 clear hr0 hc0
 have HB := am (Below.refl w.heap.size w)
 have H : (spec_FollowRequest.l0 k l0 a1_0 a1_1 a1_2 0 0 0 ([] : List (S33))) = some (r1, r2, r3, r4) := h
 clear h
 have H' := Aside0.mk H
 clear H
 go_enter Try.func74, Try.ntmps74
 go_wp2_with (first | ((with_reducible refine gate_dst (N := 3) rfl ?_); (try (refine gate_guard (by rfl) ?_; dsimp only)); refine box_event ?hg (N := 3) ?hd (cs := #[.int .i64 a1_0, .int .i64 a1_1, .int .i64 a1_2]) (t := 86) ?hr ?_; (case hd => rfl); (case hg => rfl); (case hr => first | (go_simp; done) | (go_simp; rfl)); intro gb189 hg w3 hbox hb; have q_ := hbx_ (by repeat (first | (with_reducible first | exact HB.out | apply eA | apply eN | apply eD) | exact HB.out)) hg hb; have n0_ := q_.1; have n1_ := am (hbox); have n2_ := q_.2; have n3_ := n2_; clear HB; have HB := n0_; have BK189 := n1_; have GW189 := n2_; have GE189 := n3_; clear n0_ n1_ n2_ n3_ hb hbox hg) | ((with_reducible refine gate_dst (N := 4) rfl ?_); (try (refine gate_guard (by rfl) ?_; dsimp only)); refine box_event ?hg (N := 4) ?hd (cs := #[.int .i64 0, .int .i64 0, .int .i64 0, .slice none 0 0]) (t := 105) ?hr ?_; (case hd => rfl); (case hg => rfl); (case hr => first | (go_simp; done) | (go_simp; rfl)); intro gb190 hg w4 hbox hb; have n0_ := am (blk_below (by (with_reducible repeat (first | apply bN | apply bD | apply bA)); exact BK189.out) hb); have q_ := hbx_ (by repeat (first | (with_reducible first | exact HB.out | apply eA | apply eN | apply eD | refine eS ?_ GE189.out) | exact HB.out)) hg hb; have n1_ := q_.1; have n2_ := am (hbox); have n3_ := q_.2; have n4_ := n3_; have n5_ := am ((by rw [hg]; exact Nat.ne_of_lt (blk_lt (g := gb189) (o := .cells #[.int .i64 a1_0, .int .i64 a1_1, .int .i64 a1_2] 86 (0, 0)) (by (with_reducible repeat (first | apply bN | apply bD | apply bA)); exact BK189.out)) : gb189 ≠ gb190)); have n6_ := am ((by rw [hg]; exact Nat.ne_of_gt (blk_lt (g := gb189) (o := .cells #[.int .i64 a1_0, .int .i64 a1_1, .int .i64 a1_2] 86 (0, 0)) (by (with_reducible repeat (first | apply bN | apply bD | apply bA)); exact BK189.out)) : gb190 ≠ gb189)); clear BK189; clear HB; have BK189 := n0_; have HB := n1_; have BK190 := n2_; have GW190 := n3_; have GE190 := n4_; have NB189_190 := n5_; have NB190_189 := n6_; clear n0_ n1_ n2_ n3_ n4_ n5_ n6_; clear hb hbox hg) | ((with_reducible refine gate_dst (N := 5) rfl ?_); (try (refine gate_guard (by rfl) ?_; dsimp only)); refine box_event ?hg (N := 5) ?hd (cs := #[.int .i64 0, .int .i64 0, .int .i64 0, .slice none 0 0]) (t := 105) ?hr ?_; (case hd => rfl); (case hg => rfl); (case hr => first | (go_simp; done) | (go_simp; rfl)); intro gb191 hg w5 hbox hb; have n0_ := am (blk_below (by (with_reducible repeat (first | apply bN | apply bD | apply bA)); exact BK189.out) hb); have n1_ := am (blk_below (by (with_reducible repeat (first | apply bN | apply bD | apply bA)); exact BK190.out) hb); have q_ := hbx_ (by repeat (first | (with_reducible first | exact HB.out | apply eA | apply eN | apply eD | refine eS ?_ GE189.out | refine eS ?_ GE190.out) | exact HB.out)) hg hb; have n2_ := q_.1; have n3_ := am (hbox); have n4_ := q_.2; have n5_ := n4_; have n6_ := am ((by rw [hg]; exact Nat.ne_of_lt (blk_lt (g := gb189) (o := .cells #[.int .i64 a1_0, .int .i64 a1_1, .int .i64 a1_2] 86 (0, 0)) (by (with_reducible repeat (first | apply bN | apply bD | apply bA)); exact BK189.out)) : gb189 ≠ gb191)); have n7_ := am ((by rw [hg]; exact Nat.ne_of_gt (blk_lt (g := gb189) (o := .cells #[.int .i64 a1_0, .int .i64 a1_1, .int .i64 a1_2] 86 (0, 0)) (by (with_reducible repeat (first | apply bN | apply bD | apply bA)); exact BK189.out)) : gb191 ≠ gb189)); have n8_ := am ((by rw [hg]; exact Nat.ne_of_lt (blk_lt (g := gb190) (o := .cells #[.int .i64 0, .int .i64 0, .int .i64 0, .slice none 0 0] 105 (0, 0)) (by (with_reducible repeat (first | apply bN | apply bD | apply bA)); exact BK190.out)) : gb190 ≠ gb191)); have n9_ := am ((by rw [hg]; exact Nat.ne_of_gt (blk_lt (g := gb190) (o := .cells #[.int .i64 0, .int .i64 0, .int .i64 0, .slice none 0 0] 105 (0, 0)) (by (with_reducible repeat (first | apply bN | apply bD | apply bA)); exact BK190.out)) : gb191 ≠ gb190)); clear BK189; clear BK190; clear HB; have BK189 := n0_; have BK190 := n1_; have HB := n2_; have BK191 := n3_; have GW191 := n4_; have GE191 := n5_; have NB189_191 := n6_; have NB191_189 := n7_; have NB190_191 := n8_; have NB191_190 := n9_; clear n0_ n1_ n2_ n3_ n4_ n5_ n6_ n7_ n8_ n9_; clear hb hbox hg; have hnb6 := NB191_189.out; have hnc6 := NB189_191.out; have hnb7 := NB191_190.out; have hnc7 := NB190_191.out; obtain ⟨hcz8_0, hcz8_1, hcz8_2, hcz8_3, hfz8_0, hfz8_1, hfz8_2, hfz8_3⟩ := blk4 BK191.out))
 go_loopg [] k (fun kq w' => ∃ (x190000_1 : Int) (x190001_1 : Int) (x191000_1 : Int) (x191001_1 : Int) (x191002_1 : Int) (x192000_1 : Int) (x192001_1 : Int) (x192002_1 : Int) (x192003_1 : List (S33)) (u192003 : Value), Aside0 (spec_FollowRequest.l0 kq l0 x190000_1 x190001_1 a1_2 x192000_1 x192001_1 x192002_1 x192003_1 = some (r1, r2, r3, r4)) ∧ Aside0 (kq ≤ k) ∧ Aside0 (Kd.R k33 33 w' w.heap.size (fun _ => True) u192003 x192003_1) ∧ Aside0 (w'.heap[gb189]? = some (.cells #[.int .i64 x190000_1, .int .i64 x190001_1, .int .i64 a1_2] 86 (0, 0))) ∧ Aside0 (w'.heap[gb190]? = some (.cells #[.int .i64 x191000_1, .int .i64 x191001_1, .int .i64 x191002_1, (.slice none 0 0)] 105 (0, 0))) ∧ Aside0 (w'.heap[gb191]? = some (.cells #[.int .i64 x192000_1, .int .i64 x192001_1, .int .i64 x192002_1, u192003] 105 (0, 0))) ∧ Aside0 (Below w.heap.size w w'))
 case atStart => exact ⟨(a1_0), (a1_1), (0), (0), (0), (0), (0), (0), (([] : List (S33))), (.slice none 0 0), H', ⟨Nat.le_refl _⟩, ⟨by first | exact Kd.R_nil _ _ _ _ _ | exact Kd.N_nil _ _ _ _ _ | exact Kd.V_nil _ _ _ _ _ | exact Kd.Q_nil _ _ _ _ _ | exact Kd.S_nil _ _ _ _ _⟩, ⟨by (with_reducible repeat (first | apply bN | apply bD | apply bA)); refine blk_far ?_ NB189_191.out _; (with_reducible repeat (first | apply bN | apply bD | apply bA)); refine blk_far ?_ NB189_191.out _; (with_reducible repeat (first | apply bN | apply bD | apply bA)); refine blk_far ?_ NB189_191.out _; (with_reducible repeat (first | apply bN | apply bD | apply bA)); refine blk_far ?_ NB189_191.out _; (with_reducible repeat (first | apply bN | apply bD | apply bA)); exact BK189.out⟩, ⟨by (with_reducible repeat (first | apply bN | apply bD | apply bA)); refine blk_far ?_ NB190_191.out _; (with_reducible repeat (first | apply bN | apply bD | apply bA)); refine blk_far ?_ NB190_191.out _; (with_reducible repeat (first | apply bN | apply bD | apply bA)); refine blk_far ?_ NB190_191.out _; (with_reducible repeat (first | apply bN | apply bD | apply bA)); refine blk_far ?_ NB190_191.out _; (with_reducible repeat (first | apply bN | apply bD | apply bA)); exact BK190.out⟩, ⟨by (with_reducible repeat (first | apply bN | apply bD | apply bA)); refine blk_put (cs := #[.int .i64 0, .int .i64 0, .int .i64 0, .slice none 0 0]) ?_ 3 _ rfl; (with_reducible repeat (first | apply bN | apply bD | apply bA)); refine blk_put (cs := #[.int .i64 0, .int .i64 0, .int .i64 0, .slice none 0 0]) ?_ 2 _ rfl; (with_reducible repeat (first | apply bN | apply bD | apply bA)); refine blk_put (cs := #[.int .i64 0, .int .i64 0, .int .i64 0, .slice none 0 0]) ?_ 1 _ rfl; (with_reducible repeat (first | apply bN | apply bD | apply bA)); refine blk_put (cs := #[.int .i64 0, .int .i64 0, .int .i64 0, .slice none 0 0]) ?_ 0 _ rfl; (with_reducible repeat (first | apply bN | apply bD | apply bA)); exact BK191.out⟩, ⟨by repeat (first | (with_reducible first | exact HB.out | apply eA | apply eN | apply eD | refine eS ?_ GE189.out | refine eS ?_ GE190.out | refine eS ?_ GE191.out) | exact HB.out)⟩⟩
 case round =>
  clear H'
  try clear p2
  try clear c6
  try clear c7
  try clear hcz8_0
  try clear hcz8_1
  try clear hcz8_2
  try clear hcz8_3
  try clear hfz8_0
  try clear hfz8_1
  try clear hfz8_2
  try clear hfz8_3
  obtain ⟨x190000_1, x190001_1, x191000_1, x191001_1, x191002_1, x192000_1, x192001_1, x192002_1, x192003_1, u192003, HA, HK1, HO_192003, BK189, BK190, BK191, HB⟩ := hrel
  cases gk with
  | zero => exact absurd HA.out (by simp [spec_FollowRequest.l0])
  | succ k1 =>
   have H := HA.out
   clear HA
   simp only [spec_FollowRequest.l0] at H
   replace H := Option.bind_eq_some_iff.mp H
   obtain ⟨t192, A90, H⟩ := H
   replace H : (if t192 = true then (if x192003_1.length < 8796093022208 then ((some (x192003_1 ++ [(⟨x190000_1, x190001_1⟩ : S33)] : List (S33))).bind fun y193 => ((spec_ActionFor.f k1 l0 x190000_1 x190001_1 a1_2).bind fun t196 => (if t196 = 1 then (some (1, x190000_1, x190001_1, y193)) else (if t196 = 2 then (some (2, x190000_1, x190001_1, y193)) else ((spec_DecideRule.f k1 l0 x190000_1 x190001_1 a1_2).bind fun t197 => (if 0 ≤ t197 then (if t197 < (l0.length : Int) then ((spec_l18Has.f k1 y193 ((rd_T35 l0 t197).f5.f0) ((rd_T35 l0 t197).f5.f1)).bind fun t200 => (if t200 = true then (spec_FollowRequest.j1 k1 l0 true x190000_1 x190001_1 a1_2 x192000_1 x190000_1 x190001_1 y193 ((rd_T35 l0 t197).f5.f0) ((rd_T35 l0 t197).f5.f1)) else (spec_FollowRequest.j1 k1 l0 (decide ((y193.length : Int) ≥ 6)) x190000_1 x190001_1 a1_2 x192000_1 x190000_1 x190001_1 y193 ((rd_T35 l0 t197).f5.f0) ((rd_T35 l0 t197).f5.f1)))) else (none)) else (none))))))) else (none)) else (some (x192000_1, x192001_1, x192002_1, x192003_1))) = some (r1, r2, r3, r4) := H
   have A9 := Aside0.mk A90
   clear A90
   by_cases c10 : t192 = true
   ·subst c10
    have H1 : (if x192003_1.length < 8796093022208 then ((some (x192003_1 ++ [(⟨x190000_1, x190001_1⟩ : S33)] : List (S33))).bind fun y193 => ((spec_ActionFor.f k1 l0 x190000_1 x190001_1 a1_2).bind fun t196 => (if t196 = 1 then (some (1, x190000_1, x190001_1, y193)) else (if t196 = 2 then (some (2, x190000_1, x190001_1, y193)) else ((spec_DecideRule.f k1 l0 x190000_1 x190001_1 a1_2).bind fun t197 => (if 0 ≤ t197 then (if t197 < (l0.length : Int) then ((spec_l18Has.f k1 y193 ((rd_T35 l0 t197).f5.f0) ((rd_T35 l0 t197).f5.f1)).bind fun t200 => (if t200 = true then (spec_FollowRequest.j1 k1 l0 true x190000_1 x190001_1 a1_2 x192000_1 x190000_1 x190001_1 y193 ((rd_T35 l0 t197).f5.f0) ((rd_T35 l0 t197).f5.f1)) else (spec_FollowRequest.j1 k1 l0 (decide ((y193.length : Int) ≥ 6)) x190000_1 x190001_1 a1_2 x192000_1 x190000_1 x190001_1 y193 ((rd_T35 l0 t197).f5.f0) ((rd_T35 l0 t197).f5.f1)))) else (none)) else (none))))))) else (none)) = some (r1, r2, r3, r4) := by rw [if_pos rfl] at H; exact H
    clear H
    have H := H1
    clear H1
    by_cases c11 : x192003_1.length < 8796093022208
    ·rw [if_pos c11] at H
     have LMc11 := Aside0.mk c11
     clear c11
     obtain ⟨y193, hy193⟩ : ∃ y_ : List (S33), y_ = (x192003_1 ++ [(⟨x190000_1, x190001_1⟩ : S33)]) := ⟨_, rfl⟩
     replace H : ((spec_ActionFor.f k1 l0 x190000_1 x190001_1 a1_2).bind fun t196 => (if t196 = 1 then (some (1, x190000_1, x190001_1, y193)) else (if t196 = 2 then (some (2, x190000_1, x190001_1, y193)) else ((spec_DecideRule.f k1 l0 x190000_1 x190001_1 a1_2).bind fun t197 => (if 0 ≤ t197 then (if t197 < (l0.length : Int) then ((spec_l18Has.f k1 y193 ((rd_T35 l0 t197).f5.f0) ((rd_T35 l0 t197).f5.f1)).bind fun t200 => (if t200 = true then (spec_FollowRequest.j1 k1 l0 true x190000_1 x190001_1 a1_2 x192000_1 x190000_1 x190001_1 y193 ((rd_T35 l0 t197).f5.f0) ((rd_T35 l0 t197).f5.f1)) else (spec_FollowRequest.j1 k1 l0 (decide ((y193.length : Int) ≥ 6)) x190000_1 x190001_1 a1_2 x192000_1 x190000_1 x190001_1 y193 ((rd_T35 l0 t197).f5.f0) ((rd_T35 l0 t197).f5.f1)))) else (none)) else (none)))))) = some (r1, r2, r3, r4) := by first | (rw [hy193]; with_reducible exact H) | (have H2_ := (Option.bind_some _ _).symm.trans H; rw [hy193]; with_reducible exact H2_) | (have H2_ := (Option.bind_some _ _).symm.trans H; with_reducible exact H2_) | with_reducible exact H | (rw [hy193]; exact H) | exact H
     have Ny193 := Aside0.mk hy193
     clear hy193
     replace H := Option.bind_eq_some_iff.mp H
     obtain ⟨t196, A120, H⟩ := H
     replace H : (if t196 = 1 then (some (1, x190000_1, x190001_1, y193)) else (if t196 = 2 then (some (2, x190000_1, x190001_1, y193)) else ((spec_DecideRule.f k1 l0 x190000_1 x190001_1 a1_2).bind fun t197 => (if 0 ≤ t197 then (if t197 < (l0.length : Int) then ((spec_l18Has.f k1 y193 ((rd_T35 l0 t197).f5.f0) ((rd_T35 l0 t197).f5.f1)).bind fun t200 => (if t200 = true then (spec_FollowRequest.j1 k1 l0 true x190000_1 x190001_1 a1_2 x192000_1 x190000_1 x190001_1 y193 ((rd_T35 l0 t197).f5.f0) ((rd_T35 l0 t197).f5.f1)) else (spec_FollowRequest.j1 k1 l0 (decide ((y193.length : Int) ≥ 6)) x190000_1 x190001_1 a1_2 x192000_1 x190000_1 x190001_1 y193 ((rd_T35 l0 t197).f5.f0) ((rd_T35 l0 t197).f5.f1)))) else (none)) else (none))))) = some (r1, r2, r3, r4) := H
     have A12 := Aside0.mk A120
     clear A120
     by_cases c13 : t196 = 1
     ·rw [if_pos c13] at H
      have c13b0 : (t196 == 1) = true := beq_iff_eq.mpr c13
      have c13b1 : (t196 != 1) = false := bne_eq_false_iff_eq.mpr c13
      clear c13
      simp only [Option.some.injEq, Prod.mk.injEq] at H
      obtain ⟨rfl, rfl, rfl, rfl⟩ := H
      have hnb14 := NB189_190.out
      have hnc14 := NB190_189.out
      have hnb15 := NB189_191.out
      have hnc15 := NB191_189.out
      have hcz16_0 : wr.cell? ⟨gb189, 0, none⟩ = some (.int .i64 x190000_1) := (blk_cell BK189.out 0).trans rfl
      have hcz16_1 : wr.cell? ⟨gb189, 1, none⟩ = some (.int .i64 x190001_1) := (blk_cell BK189.out 1).trans rfl
      have hcz16_2 : wr.cell? ⟨gb189, 2, none⟩ = some (.int .i64 a1_2) := (blk_cell BK189.out 2).trans rfl
      have hfz16_0 := blk_frozen BK189.out 0
      have hfz16_1 := blk_frozen BK189.out 1
      have hfz16_2 := blk_frozen BK189.out 2
      go_wp2_with (first | ((with_reducible refine gate_callee (f := 80) rfl ?_); refine goesL_ (some 9) rfl rfl Try.func80 (by kernel_rfl) rfl #[.agg #[.int .i64 x190000_1, .int .i64 x190001_1, .int .i64 a1_2]] rfl (by (try simp only [List.map_toArray, List.map_cons, List.map_nil]); first | done | rfl | (simp only [List.length_drop, List.length_take]; rfl)) ?_; (with_reducible refine (spec_IsRequest.calls x190000_1 x190001_1 a1_2 true _ A9.out).mono ?_); rintro e w17 ⟨rfl, hb⟩; refine ⟨_, rfl, ?_⟩; have n0_ := am (Kd.R_below (by (with_reducible repeat (first | apply Kd.R_alloc | apply Kd.R_drewN | apply Kd.R_drew)); exact HO_192003.out) hb); have n1_ := am (blk_below (by (with_reducible repeat (first | apply bN | apply bD | apply bA)); exact BK189.out) hb); have n2_ := am (blk_below (by (with_reducible repeat (first | apply bN | apply bD | apply bA)); exact BK190.out) hb); have n3_ := am (blk_below (by (with_reducible repeat (first | apply bN | apply bD | apply bA)); exact BK191.out) hb); have n4_ := am (below_step (by repeat (first | (with_reducible first | exact HB.out | apply eA | apply eN | apply eD | refine eS ?_ GE189.out | refine eS ?_ GE190.out | refine eS ?_ GE191.out) | exact HB.out)) hb); clear HO_192003; clear BK189; clear BK190; clear BK191; clear HB; have HO_192003 := n0_; have BK189 := n1_; have BK190 := n2_; have BK191 := n3_; have HB := n4_; clear n0_ n1_ n2_ n3_ n4_; (try clear hb); (try clear hb2); (try clear hk); (try clear hi); have hnb18 := NB191_190.out; have hnc18 := NB190_191.out; obtain ⟨hcz19_0, hcz19_1, hcz19_2, hcz19_3, hfz19_0, hfz19_1, hfz19_2, hfz19_3⟩ := blk4 BK191.out; obtain ⟨hcz20_0, hcz20_1, hcz20_2, hfz20_0, hfz20_1, hfz20_2⟩ := blk3 BK189.out) | ((with_reducible refine gate_builtin (b := .append) (xs := #[.tmp 11, .tmp 14]) rfl ?_); (try (refine gate_guard (by rfl) ?_; dsimp only)); at_builtin; refine Kd.R_append k33 (w0 := w) w.heap.size rfl (.tmp 11) (.tmp 14) 103 33 (.agg #[(.int .i64 0), (.int .i64 0)]) 16 rfl Try.underlying103 info33 rfl (by decide) (by omega) u192003 x192003_1 (⟨x190000_1, x190001_1⟩ : S33) [.int .i64 x190000_1, .int .i64 x190001_1] (fun _ => True) (fun _ => False) rfl rfl ?aP (fun _ hk => hk.elim) ?aF ?aO ?aB ?aS ?aL ?_; (case aP => exact k33_mkM _ _ _ (⟨x190000_1, x190001_1⟩ : S33)); (case aB => exact (by repeat (first | (with_reducible first | exact HB.out | apply eA | apply eN | apply eD | refine eS ?_ GE189.out | refine eS ?_ GE190.out | refine eS ?_ GE191.out) | exact HB.out))); (case aF => exact (fun _ _ => trivial)); (case aO => exact (by (with_reducible repeat (first | apply Kd.R_alloc | apply Kd.R_drewN | apply Kd.R_drew)); exact HO_192003.out)); (case aS => exact (below_size (by repeat (first | (with_reducible first | exact HB.out | apply eA | apply eN | apply eD | refine eS ?_ GE189.out | refine eS ?_ GE190.out | refine eS ?_ GE191.out) | exact HB.out)))); (case aL => have := LMc11.out; omega); intro v194 w21 ho hb hg hat; rw [← Ny193.out] at ho; have n0_ := am (blk_grown (g := gb189) (o := .cells #[.int .i64 x190000_1, .int .i64 x190001_1, .int .i64 a1_2] 86 (0, 0)) (by (with_reducible repeat (first | apply bN | apply bD | apply bA)); exact BK189.out) hg (Kd.R_ne HO_192003.out BK189.out (by decide))); have n1_ := am (blk_grown (g := gb190) (o := .cells #[.int .i64 x191000_1, .int .i64 x191001_1, .int .i64 x191002_1, .slice none 0 0] 105 (0, 0)) (by (with_reducible repeat (first | apply bN | apply bD | apply bA)); exact BK190.out) hg (Kd.R_ne HO_192003.out BK190.out (by decide))); have n2_ := am (blk_grown (g := gb191) (o := .cells #[.int .i64 x192000_1, .int .i64 x192001_1, .int .i64 x192002_1, u192003] 105 (0, 0)) (by (with_reducible repeat (first | apply bN | apply bD | apply bA)); exact BK191.out) hg (Kd.R_ne HO_192003.out BK191.out (by decide))); have n3_ := am (hb); have n4_ := am (ho); clear BK189; clear BK190; clear BK191; clear HB; clear HO_192003; have BK189 := n0_; have BK190 := n1_; have BK191 := n2_; have HB := n3_; have HO195 := n4_; clear n0_ n1_ n2_ n3_ n4_; clear ho hb hg hat; obtain ⟨Ao22, co22, eo22⟩ := Kd.R_slice HO195.out; subst eo22; obtain ⟨hcz23_0, hcz23_1, hcz23_2, hcz23_3, hfz23_0, hfz23_1, hfz23_2, hfz23_3⟩ := blk4 BK191.out; obtain ⟨hcz24_0, hcz24_1, hcz24_2, hfz24_0, hfz24_1, hfz24_2⟩ := blk3 BK189.out) | ((with_reducible refine gate_callee (f := 116) rfl ?_); refine goesL_ (some 22) rfl rfl Try.func116 (by kernel_rfl) rfl #[.slice A0 l0.length c0, .agg #[.int .i64 x190000_1, .int .i64 x190001_1, .int .i64 a1_2]] rfl (by (try simp only [List.map_toArray, List.map_cons, List.map_nil]); first | done | rfl | (simp only [List.length_drop, List.length_take]; rfl)) ?_; (with_reducible refine (spec_ActionFor.calls k1 _ _ l0 x190000_1 x190001_1 a1_2 t196 _ ?side1 ?side2 A12.out).mono ?_); (case side1 => exact Kd.C_below HR0.out (by repeat (first | (with_reducible first | exact HB.out | apply eA | apply eN | apply eD | refine eS ?_ GE189.out | refine eS ?_ GE190.out | refine eS ?_ GE191.out) | exact HB.out))); (case side2 => exact HC0.out); rintro e w25 ⟨rfl, hb⟩; refine ⟨_, rfl, ?_⟩; have n0_ := am (Kd.R_below (by (with_reducible repeat (first | apply Kd.R_alloc | apply Kd.R_drewN | apply Kd.R_drew)); exact (Kd.R_mono (Kd.R_far (p := ⟨gb191, 2, none⟩) (Kd.R_far (p := ⟨gb191, 1, none⟩) (Kd.R_far (p := ⟨gb191, 3, none⟩) (Kd.R_types HO195.out BK191.out (by decide)) (fun _ hk => hk.2) (.slice Ao22 y193.length co22)) (fun _ hk => hk.2) (.int .i64 x190000_1)) (fun _ hk => hk.2) (.int .i64 x190001_1)) (fun _ h_ => h_.1))) hb); have n1_ := am (blk_below (g := gb189) (o := .cells #[.int .i64 x190000_1, .int .i64 x190001_1, .int .i64 a1_2] 86 (0, 0)) (by (with_reducible repeat (first | apply bN | apply bD | apply bA)); refine blk_far ?_ NB189_191.out _; (with_reducible repeat (first | apply bN | apply bD | apply bA)); refine blk_far ?_ NB189_191.out _; (with_reducible repeat (first | apply bN | apply bD | apply bA)); refine blk_far ?_ NB189_191.out _; (with_reducible repeat (first | apply bN | apply bD | apply bA)); exact BK189.out) hb); have n2_ := am (blk_below (g := gb190) (o := .cells #[.int .i64 x191000_1, .int .i64 x191001_1, .int .i64 x191002_1, .slice none 0 0] 105 (0, 0)) (by (with_reducible repeat (first | apply bN | apply bD | apply bA)); refine blk_far ?_ NB190_191.out _; (with_reducible repeat (first | apply bN | apply bD | apply bA)); refine blk_far ?_ NB190_191.out _; (with_reducible repeat (first | apply bN | apply bD | apply bA)); refine blk_far ?_ NB190_191.out _; (with_reducible repeat (first | apply bN | apply bD | apply bA)); exact BK190.out) hb); have n3_ := am (blk_below (g := gb191) (o := .cells #[.int .i64 x192000_1, .int .i64 x190000_1, .int .i64 x190001_1, .slice Ao22 y193.length co22] 105 (0, 0)) (by (with_reducible repeat (first | apply bN | apply bD | apply bA)); refine blk_put (cs := #[.int .i64 x192000_1, .int .i64 x190000_1, .int .i64 x192002_1, .slice Ao22 y193.length co22]) ?_ 2 _ rfl; (with_reducible repeat (first | apply bN | apply bD | apply bA)); refine blk_put (cs := #[.int .i64 x192000_1, .int .i64 x192001_1, .int .i64 x192002_1, .slice Ao22 y193.length co22]) ?_ 1 _ rfl; (with_reducible repeat (first | apply bN | apply bD | apply bA)); refine blk_put (cs := #[.int .i64 x192000_1, .int .i64 x192001_1, .int .i64 x192002_1, u192003]) ?_ 3 _ rfl; (with_reducible repeat (first | apply bN | apply bD | apply bA)); exact BK191.out) hb); have n4_ := am (below_step (by repeat (first | (with_reducible first | exact HB.out | apply eA | apply eN | apply eD | refine eS ?_ GE189.out | refine eS ?_ GE190.out | refine eS ?_ GE191.out) | exact HB.out)) hb); clear HO195; clear BK189; clear BK190; clear BK191; clear HB; have HO195 := n0_; have BK189 := n1_; have BK190 := n2_; have BK191 := n3_; have HB := n4_; clear n0_ n1_ n2_ n3_ n4_; (try clear hb); (try clear hb2); (try clear hk); (try clear hi); obtain ⟨hcz26_0, hcz26_1, hcz26_2, hcz26_3, hfz26_0, hfz26_1, hfz26_2, hfz26_3⟩ := blk4 BK191.out; obtain ⟨hcz27_0, hcz27_1, hcz27_2, hcz27_3, hfz27_0, hfz27_1, hfz27_2, hfz27_3⟩ := blk4 BK190.out))
      refine bodyPost_ret (results_cell_row rfl _ _ gb190 105 #[.int .i64 1, .int .i64 x190000_1, .int .i64 x190001_1, .slice Ao22 y193.length co22] (0, 0) _ rfl (by (with_reducible repeat (first | apply bN | apply bD | apply bA)); refine blk_put (cs := #[.int .i64 1, .int .i64 x190000_1, .int .i64 x190001_1, .slice none 0 0]) ?_ 3 _ rfl; (with_reducible repeat (first | apply bN | apply bD | apply bA)); refine blk_put (cs := #[.int .i64 1, .int .i64 x190000_1, .int .i64 x191002_1, .slice none 0 0]) ?_ 2 _ rfl; (with_reducible repeat (first | apply bN | apply bD | apply bA)); refine blk_put (cs := #[.int .i64 1, .int .i64 x191001_1, .int .i64 x191002_1, .slice none 0 0]) ?_ 1 _ rfl; (with_reducible repeat (first | apply bN | apply bD | apply bA)); refine blk_put (cs := #[.int .i64 x191000_1, .int .i64 x191001_1, .int .i64 x191002_1, .slice none 0 0]) ?_ 0 _ rfl; (with_reducible repeat (first | apply bN | apply bD | apply bA)); refine blk_far ?_ NB190_191.out _; (with_reducible repeat (first | apply bN | apply bD | apply bA)); exact BK190.out) Try.underlying105 rfl (by kernel_rfl)) rfl ?_
      exact ⟨_, by first | rfl | (simp [errW_none, errW_some] <;> rfl) | (simp [*, errW_none, errW_some] <;> rfl), by (with_reducible repeat (first | apply Kd.R_alloc | apply Kd.R_drewN | apply Kd.R_drew)); exact Kd.R_mono (Kd.R_far (p := ⟨gb190, 3, none⟩) (Kd.R_far (p := ⟨gb190, 2, none⟩) (Kd.R_far (p := ⟨gb190, 1, none⟩) (Kd.R_far (p := ⟨gb190, 0, none⟩) (Kd.R_far (p := ⟨gb191, 0, none⟩) (Kd.R_types (Kd.R_types HO195.out BK191.out (by decide)) BK190.out (by decide)) (fun _ hk => hk.1.2) (.int .i64 1)) (fun _ hk => hk.2) (.int .i64 1)) (fun _ hk => hk.2) (.int .i64 x190000_1)) (fun _ hk => hk.2) (.int .i64 x190001_1)) (fun _ hk => hk.2) (.slice Ao22 y193.length co22)) (fun _ hk => trivial), by repeat (first | (with_reducible first | exact HB.out | apply eA | apply eN | apply eD | refine eS ?_ GE189.out | refine eS ?_ GE190.out | refine eS ?_ GE191.out) | exact HB.out)⟩
     ·rw [if_neg c13] at H
      have c13b0 : (t196 == 1) = false := beq_eq_false_iff_ne.mpr c13
      have c13b1 : (t196 != 1) = true := bne_iff_ne.mpr c13
      by_cases c28 : t196 = 2
      ·rw [if_pos c28] at H
       have c28b0 : (t196 == 2) = true := beq_iff_eq.mpr c28
       have c28b1 : (t196 != 2) = false := bne_eq_false_iff_eq.mpr c28
       clear c28
       simp only [Option.some.injEq, Prod.mk.injEq] at H
       obtain ⟨rfl, rfl, rfl, rfl⟩ := H
       have hnb29 := NB189_190.out
       have hnc29 := NB190_189.out
       have hnb30 := NB189_191.out
       have hnc30 := NB191_189.out
       have hcz31_0 : wr.cell? ⟨gb189, 0, none⟩ = some (.int .i64 x190000_1) := (blk_cell BK189.out 0).trans rfl
       have hcz31_1 : wr.cell? ⟨gb189, 1, none⟩ = some (.int .i64 x190001_1) := (blk_cell BK189.out 1).trans rfl
       have hcz31_2 : wr.cell? ⟨gb189, 2, none⟩ = some (.int .i64 a1_2) := (blk_cell BK189.out 2).trans rfl
       have hfz31_0 := blk_frozen BK189.out 0
       have hfz31_1 := blk_frozen BK189.out 1
       have hfz31_2 := blk_frozen BK189.out 2
       go_wp2_with (first | ((with_reducible refine gate_callee (f := 80) rfl ?_); refine goesL_ (some 9) rfl rfl Try.func80 (by kernel_rfl) rfl #[.agg #[.int .i64 x190000_1, .int .i64 x190001_1, .int .i64 a1_2]] rfl (by (try simp only [List.map_toArray, List.map_cons, List.map_nil]); first | done | rfl | (simp only [List.length_drop, List.length_take]; rfl)) ?_; (with_reducible refine (spec_IsRequest.calls x190000_1 x190001_1 a1_2 true _ A9.out).mono ?_); rintro e w32 ⟨rfl, hb⟩; refine ⟨_, rfl, ?_⟩; have n0_ := am (Kd.R_below (by (with_reducible repeat (first | apply Kd.R_alloc | apply Kd.R_drewN | apply Kd.R_drew)); exact HO_192003.out) hb); have n1_ := am (blk_below (by (with_reducible repeat (first | apply bN | apply bD | apply bA)); exact BK189.out) hb); have n2_ := am (blk_below (by (with_reducible repeat (first | apply bN | apply bD | apply bA)); exact BK190.out) hb); have n3_ := am (blk_below (by (with_reducible repeat (first | apply bN | apply bD | apply bA)); exact BK191.out) hb); have n4_ := am (below_step (by repeat (first | (with_reducible first | exact HB.out | apply eA | apply eN | apply eD | refine eS ?_ GE189.out | refine eS ?_ GE190.out | refine eS ?_ GE191.out) | exact HB.out)) hb); clear HO_192003; clear BK189; clear BK190; clear BK191; clear HB; have HO_192003 := n0_; have BK189 := n1_; have BK190 := n2_; have BK191 := n3_; have HB := n4_; clear n0_ n1_ n2_ n3_ n4_; (try clear hb); (try clear hb2); (try clear hk); (try clear hi); have hnb33 := NB191_190.out; have hnc33 := NB190_191.out; obtain ⟨hcz34_0, hcz34_1, hcz34_2, hcz34_3, hfz34_0, hfz34_1, hfz34_2, hfz34_3⟩ := blk4 BK191.out; obtain ⟨hcz35_0, hcz35_1, hcz35_2, hfz35_0, hfz35_1, hfz35_2⟩ := blk3 BK189.out) | ((with_reducible refine gate_builtin (b := .append) (xs := #[.tmp 11, .tmp 14]) rfl ?_); (try (refine gate_guard (by rfl) ?_; dsimp only)); at_builtin; refine Kd.R_append k33 (w0 := w) w.heap.size rfl (.tmp 11) (.tmp 14) 103 33 (.agg #[(.int .i64 0), (.int .i64 0)]) 16 rfl Try.underlying103 info33 rfl (by decide) (by omega) u192003 x192003_1 (⟨x190000_1, x190001_1⟩ : S33) [.int .i64 x190000_1, .int .i64 x190001_1] (fun _ => True) (fun _ => False) rfl rfl ?aP (fun _ hk => hk.elim) ?aF ?aO ?aB ?aS ?aL ?_; (case aP => exact k33_mkM _ _ _ (⟨x190000_1, x190001_1⟩ : S33)); (case aB => exact (by repeat (first | (with_reducible first | exact HB.out | apply eA | apply eN | apply eD | refine eS ?_ GE189.out | refine eS ?_ GE190.out | refine eS ?_ GE191.out) | exact HB.out))); (case aF => exact (fun _ _ => trivial)); (case aO => exact (by (with_reducible repeat (first | apply Kd.R_alloc | apply Kd.R_drewN | apply Kd.R_drew)); exact HO_192003.out)); (case aS => exact (below_size (by repeat (first | (with_reducible first | exact HB.out | apply eA | apply eN | apply eD | refine eS ?_ GE189.out | refine eS ?_ GE190.out | refine eS ?_ GE191.out) | exact HB.out)))); (case aL => have := LMc11.out; omega); intro v194 w36 ho hb hg hat; rw [← Ny193.out] at ho; have n0_ := am (blk_grown (g := gb189) (o := .cells #[.int .i64 x190000_1, .int .i64 x190001_1, .int .i64 a1_2] 86 (0, 0)) (by (with_reducible repeat (first | apply bN | apply bD | apply bA)); exact BK189.out) hg (Kd.R_ne HO_192003.out BK189.out (by decide))); have n1_ := am (blk_grown (g := gb190) (o := .cells #[.int .i64 x191000_1, .int .i64 x191001_1, .int .i64 x191002_1, .slice none 0 0] 105 (0, 0)) (by (with_reducible repeat (first | apply bN | apply bD | apply bA)); exact BK190.out) hg (Kd.R_ne HO_192003.out BK190.out (by decide))); have n2_ := am (blk_grown (g := gb191) (o := .cells #[.int .i64 x192000_1, .int .i64 x192001_1, .int .i64 x192002_1, u192003] 105 (0, 0)) (by (with_reducible repeat (first | apply bN | apply bD | apply bA)); exact BK191.out) hg (Kd.R_ne HO_192003.out BK191.out (by decide))); have n3_ := am (hb); have n4_ := am (ho); clear BK189; clear BK190; clear BK191; clear HB; clear HO_192003; have BK189 := n0_; have BK190 := n1_; have BK191 := n2_; have HB := n3_; have HO195 := n4_; clear n0_ n1_ n2_ n3_ n4_; clear ho hb hg hat; obtain ⟨Ao37, co37, eo37⟩ := Kd.R_slice HO195.out; subst eo37; obtain ⟨hcz38_0, hcz38_1, hcz38_2, hcz38_3, hfz38_0, hfz38_1, hfz38_2, hfz38_3⟩ := blk4 BK191.out; obtain ⟨hcz39_0, hcz39_1, hcz39_2, hfz39_0, hfz39_1, hfz39_2⟩ := blk3 BK189.out) | ((with_reducible refine gate_callee (f := 116) rfl ?_); refine goesL_ (some 22) rfl rfl Try.func116 (by kernel_rfl) rfl #[.slice A0 l0.length c0, .agg #[.int .i64 x190000_1, .int .i64 x190001_1, .int .i64 a1_2]] rfl (by (try simp only [List.map_toArray, List.map_cons, List.map_nil]); first | done | rfl | (simp only [List.length_drop, List.length_take]; rfl)) ?_; (with_reducible refine (spec_ActionFor.calls k1 _ _ l0 x190000_1 x190001_1 a1_2 t196 _ ?side1 ?side2 A12.out).mono ?_); (case side1 => exact Kd.C_below HR0.out (by repeat (first | (with_reducible first | exact HB.out | apply eA | apply eN | apply eD | refine eS ?_ GE189.out | refine eS ?_ GE190.out | refine eS ?_ GE191.out) | exact HB.out))); (case side2 => exact HC0.out); rintro e w40 ⟨rfl, hb⟩; refine ⟨_, rfl, ?_⟩; have n0_ := am (Kd.R_below (by (with_reducible repeat (first | apply Kd.R_alloc | apply Kd.R_drewN | apply Kd.R_drew)); exact (Kd.R_mono (Kd.R_far (p := ⟨gb191, 2, none⟩) (Kd.R_far (p := ⟨gb191, 1, none⟩) (Kd.R_far (p := ⟨gb191, 3, none⟩) (Kd.R_types HO195.out BK191.out (by decide)) (fun _ hk => hk.2) (.slice Ao37 y193.length co37)) (fun _ hk => hk.2) (.int .i64 x190000_1)) (fun _ hk => hk.2) (.int .i64 x190001_1)) (fun _ h_ => h_.1))) hb); have n1_ := am (blk_below (g := gb189) (o := .cells #[.int .i64 x190000_1, .int .i64 x190001_1, .int .i64 a1_2] 86 (0, 0)) (by (with_reducible repeat (first | apply bN | apply bD | apply bA)); refine blk_far ?_ NB189_191.out _; (with_reducible repeat (first | apply bN | apply bD | apply bA)); refine blk_far ?_ NB189_191.out _; (with_reducible repeat (first | apply bN | apply bD | apply bA)); refine blk_far ?_ NB189_191.out _; (with_reducible repeat (first | apply bN | apply bD | apply bA)); exact BK189.out) hb); have n2_ := am (blk_below (g := gb190) (o := .cells #[.int .i64 x191000_1, .int .i64 x191001_1, .int .i64 x191002_1, .slice none 0 0] 105 (0, 0)) (by (with_reducible repeat (first | apply bN | apply bD | apply bA)); refine blk_far ?_ NB190_191.out _; (with_reducible repeat (first | apply bN | apply bD | apply bA)); refine blk_far ?_ NB190_191.out _; (with_reducible repeat (first | apply bN | apply bD | apply bA)); refine blk_far ?_ NB190_191.out _; (with_reducible repeat (first | apply bN | apply bD | apply bA)); exact BK190.out) hb); have n3_ := am (blk_below (g := gb191) (o := .cells #[.int .i64 x192000_1, .int .i64 x190000_1, .int .i64 x190001_1, .slice Ao37 y193.length co37] 105 (0, 0)) (by (with_reducible repeat (first | apply bN | apply bD | apply bA)); refine blk_put (cs := #[.int .i64 x192000_1, .int .i64 x190000_1, .int .i64 x192002_1, .slice Ao37 y193.length co37]) ?_ 2 _ rfl; (with_reducible repeat (first | apply bN | apply bD | apply bA)); refine blk_put (cs := #[.int .i64 x192000_1, .int .i64 x192001_1, .int .i64 x192002_1, .slice Ao37 y193.length co37]) ?_ 1 _ rfl; (with_reducible repeat (first | apply bN | apply bD | apply bA)); refine blk_put (cs := #[.int .i64 x192000_1, .int .i64 x192001_1, .int .i64 x192002_1, u192003]) ?_ 3 _ rfl; (with_reducible repeat (first | apply bN | apply bD | apply bA)); exact BK191.out) hb); have n4_ := am (below_step (by repeat (first | (with_reducible first | exact HB.out | apply eA | apply eN | apply eD | refine eS ?_ GE189.out | refine eS ?_ GE190.out | refine eS ?_ GE191.out) | exact HB.out)) hb); clear HO195; clear BK189; clear BK190; clear BK191; clear HB; have HO195 := n0_; have BK189 := n1_; have BK190 := n2_; have BK191 := n3_; have HB := n4_; clear n0_ n1_ n2_ n3_ n4_; (try clear hb); (try clear hb2); (try clear hk); (try clear hi); obtain ⟨hcz41_0, hcz41_1, hcz41_2, hcz41_3, hfz41_0, hfz41_1, hfz41_2, hfz41_3⟩ := blk4 BK191.out; obtain ⟨hcz42_0, hcz42_1, hcz42_2, hcz42_3, hfz42_0, hfz42_1, hfz42_2, hfz42_3⟩ := blk4 BK190.out))
       refine bodyPost_ret (results_cell_row rfl _ _ gb190 105 #[.int .i64 2, .int .i64 x190000_1, .int .i64 x190001_1, .slice Ao37 y193.length co37] (0, 0) _ rfl (by (with_reducible repeat (first | apply bN | apply bD | apply bA)); refine blk_put (cs := #[.int .i64 2, .int .i64 x190000_1, .int .i64 x190001_1, .slice none 0 0]) ?_ 3 _ rfl; (with_reducible repeat (first | apply bN | apply bD | apply bA)); refine blk_put (cs := #[.int .i64 2, .int .i64 x190000_1, .int .i64 x191002_1, .slice none 0 0]) ?_ 2 _ rfl; (with_reducible repeat (first | apply bN | apply bD | apply bA)); refine blk_put (cs := #[.int .i64 2, .int .i64 x191001_1, .int .i64 x191002_1, .slice none 0 0]) ?_ 1 _ rfl; (with_reducible repeat (first | apply bN | apply bD | apply bA)); refine blk_put (cs := #[.int .i64 x191000_1, .int .i64 x191001_1, .int .i64 x191002_1, .slice none 0 0]) ?_ 0 _ rfl; (with_reducible repeat (first | apply bN | apply bD | apply bA)); refine blk_far ?_ NB190_191.out _; (with_reducible repeat (first | apply bN | apply bD | apply bA)); exact BK190.out) Try.underlying105 rfl (by kernel_rfl)) rfl ?_
       exact ⟨_, by first | rfl | (simp [errW_none, errW_some] <;> rfl) | (simp [*, errW_none, errW_some] <;> rfl), by (with_reducible repeat (first | apply Kd.R_alloc | apply Kd.R_drewN | apply Kd.R_drew)); exact Kd.R_mono (Kd.R_far (p := ⟨gb190, 3, none⟩) (Kd.R_far (p := ⟨gb190, 2, none⟩) (Kd.R_far (p := ⟨gb190, 1, none⟩) (Kd.R_far (p := ⟨gb190, 0, none⟩) (Kd.R_far (p := ⟨gb191, 0, none⟩) (Kd.R_types (Kd.R_types HO195.out BK191.out (by decide)) BK190.out (by decide)) (fun _ hk => hk.1.2) (.int .i64 2)) (fun _ hk => hk.2) (.int .i64 2)) (fun _ hk => hk.2) (.int .i64 x190000_1)) (fun _ hk => hk.2) (.int .i64 x190001_1)) (fun _ hk => hk.2) (.slice Ao37 y193.length co37)) (fun _ hk => trivial), by repeat (first | (with_reducible first | exact HB.out | apply eA | apply eN | apply eD | refine eS ?_ GE189.out | refine eS ?_ GE190.out | refine eS ?_ GE191.out) | exact HB.out)⟩
      ·rw [if_neg c28] at H
       have c28b0 : (t196 == 2) = false := beq_eq_false_iff_ne.mpr c28
       have c28b1 : (t196 != 2) = true := bne_iff_ne.mpr c28
       replace H := Option.bind_eq_some_iff.mp H
       obtain ⟨t197, A430, H⟩ := H
       replace H : (if 0 ≤ t197 then (if t197 < (l0.length : Int) then ((spec_l18Has.f k1 y193 ((rd_T35 l0 t197).f5.f0) ((rd_T35 l0 t197).f5.f1)).bind fun t200 => (if t200 = true then (spec_FollowRequest.j1 k1 l0 true x190000_1 x190001_1 a1_2 x192000_1 x190000_1 x190001_1 y193 ((rd_T35 l0 t197).f5.f0) ((rd_T35 l0 t197).f5.f1)) else (spec_FollowRequest.j1 k1 l0 (decide ((y193.length : Int) ≥ 6)) x190000_1 x190001_1 a1_2 x192000_1 x190000_1 x190001_1 y193 ((rd_T35 l0 t197).f5.f0) ((rd_T35 l0 t197).f5.f1)))) else (none)) else (none)) = some (r1, r2, r3, r4) := H
       have A43 := Aside0.mk A430
       clear A430
       by_cases c44 : 0 ≤ t197
       ·rw [if_pos c44] at H
        have c44b0 : decide (0 ≤ t197) = true := decide_eq_true c44
        clear c44
        by_cases c45 : t197 < (l0.length : Int)
        ·rw [if_pos c45] at H
         have c45b0 : decide (t197 < (l0.length : Int)) = true := decide_eq_true c45
         clear c45
         have HC46 := Aside0.mk H
         clear H
         have hnb47 := NB189_190.out
         have hnc47 := NB190_189.out
         have hnb48 := NB189_191.out
         have hnc48 := NB191_189.out
         have hcz49_0 : wr.cell? ⟨gb189, 0, none⟩ = some (.int .i64 x190000_1) := (blk_cell BK189.out 0).trans rfl
         have hcz49_1 : wr.cell? ⟨gb189, 1, none⟩ = some (.int .i64 x190001_1) := (blk_cell BK189.out 1).trans rfl
         have hcz49_2 : wr.cell? ⟨gb189, 2, none⟩ = some (.int .i64 a1_2) := (blk_cell BK189.out 2).trans rfl
         have hfz49_0 := blk_frozen BK189.out 0
         have hfz49_1 := blk_frozen BK189.out 1
         have hfz49_2 := blk_frozen BK189.out 2
         go_upto_region 13 with (first | ((with_reducible refine gate_callee (f := 80) rfl ?_); refine goesL_ (some 9) rfl rfl Try.func80 (by kernel_rfl) rfl #[.agg #[.int .i64 x190000_1, .int .i64 x190001_1, .int .i64 a1_2]] rfl (by (try simp only [List.map_toArray, List.map_cons, List.map_nil]); first | done | rfl | (simp only [List.length_drop, List.length_take]; rfl)) ?_; (with_reducible refine (spec_IsRequest.calls x190000_1 x190001_1 a1_2 true _ A9.out).mono ?_); rintro e w50 ⟨rfl, hb⟩; refine ⟨_, rfl, ?_⟩; have n0_ := am (Kd.R_below (by (with_reducible repeat (first | apply Kd.R_alloc | apply Kd.R_drewN | apply Kd.R_drew)); exact HO_192003.out) hb); have n1_ := am (blk_below (by (with_reducible repeat (first | apply bN | apply bD | apply bA)); exact BK189.out) hb); have n2_ := am (blk_below (by (with_reducible repeat (first | apply bN | apply bD | apply bA)); exact BK190.out) hb); have n3_ := am (blk_below (by (with_reducible repeat (first | apply bN | apply bD | apply bA)); exact BK191.out) hb); have n4_ := am (below_step (by repeat (first | (with_reducible first | exact HB.out | apply eA | apply eN | apply eD | refine eS ?_ GE189.out | refine eS ?_ GE190.out | refine eS ?_ GE191.out) | exact HB.out)) hb); clear HO_192003; clear BK189; clear BK190; clear BK191; clear HB; have HO_192003 := n0_; have BK189 := n1_; have BK190 := n2_; have BK191 := n3_; have HB := n4_; clear n0_ n1_ n2_ n3_ n4_; (try clear hb); (try clear hb2); (try clear hk); (try clear hi); have hnb51 := NB191_190.out; have hnc51 := NB190_191.out; obtain ⟨hcz52_0, hcz52_1, hcz52_2, hcz52_3, hfz52_0, hfz52_1, hfz52_2, hfz52_3⟩ := blk4 BK191.out; obtain ⟨hcz53_0, hcz53_1, hcz53_2, hfz53_0, hfz53_1, hfz53_2⟩ := blk3 BK189.out) | ((with_reducible refine gate_builtin (b := .append) (xs := #[.tmp 11, .tmp 14]) rfl ?_); (try (refine gate_guard (by rfl) ?_; dsimp only)); at_builtin; refine Kd.R_append k33 (w0 := w) w.heap.size rfl (.tmp 11) (.tmp 14) 103 33 (.agg #[(.int .i64 0), (.int .i64 0)]) 16 rfl Try.underlying103 info33 rfl (by decide) (by omega) u192003 x192003_1 (⟨x190000_1, x190001_1⟩ : S33) [.int .i64 x190000_1, .int .i64 x190001_1] (fun _ => True) (fun _ => False) rfl rfl ?aP (fun _ hk => hk.elim) ?aF ?aO ?aB ?aS ?aL ?_; (case aP => exact k33_mkM _ _ _ (⟨x190000_1, x190001_1⟩ : S33)); (case aB => exact (by repeat (first | (with_reducible first | exact HB.out | apply eA | apply eN | apply eD | refine eS ?_ GE189.out | refine eS ?_ GE190.out | refine eS ?_ GE191.out) | exact HB.out))); (case aF => exact (fun _ _ => trivial)); (case aO => exact (by (with_reducible repeat (first | apply Kd.R_alloc | apply Kd.R_drewN | apply Kd.R_drew)); exact HO_192003.out)); (case aS => exact (below_size (by repeat (first | (with_reducible first | exact HB.out | apply eA | apply eN | apply eD | refine eS ?_ GE189.out | refine eS ?_ GE190.out | refine eS ?_ GE191.out) | exact HB.out)))); (case aL => have := LMc11.out; omega); intro v194 w54 ho hb hg hat; rw [← Ny193.out] at ho; have n0_ := am (blk_grown (g := gb189) (o := .cells #[.int .i64 x190000_1, .int .i64 x190001_1, .int .i64 a1_2] 86 (0, 0)) (by (with_reducible repeat (first | apply bN | apply bD | apply bA)); exact BK189.out) hg (Kd.R_ne HO_192003.out BK189.out (by decide))); have n1_ := am (blk_grown (g := gb190) (o := .cells #[.int .i64 x191000_1, .int .i64 x191001_1, .int .i64 x191002_1, .slice none 0 0] 105 (0, 0)) (by (with_reducible repeat (first | apply bN | apply bD | apply bA)); exact BK190.out) hg (Kd.R_ne HO_192003.out BK190.out (by decide))); have n2_ := am (blk_grown (g := gb191) (o := .cells #[.int .i64 x192000_1, .int .i64 x192001_1, .int .i64 x192002_1, u192003] 105 (0, 0)) (by (with_reducible repeat (first | apply bN | apply bD | apply bA)); exact BK191.out) hg (Kd.R_ne HO_192003.out BK191.out (by decide))); have n3_ := am (hb); have n4_ := am (ho); clear BK189; clear BK190; clear BK191; clear HB; clear HO_192003; have BK189 := n0_; have BK190 := n1_; have BK191 := n2_; have HB := n3_; have HO195 := n4_; clear n0_ n1_ n2_ n3_ n4_; clear ho hb hg hat; obtain ⟨Ao55, co55, eo55⟩ := Kd.R_slice HO195.out; subst eo55; obtain ⟨hcz56_0, hcz56_1, hcz56_2, hcz56_3, hfz56_0, hfz56_1, hfz56_2, hfz56_3⟩ := blk4 BK191.out; obtain ⟨hcz57_0, hcz57_1, hcz57_2, hfz57_0, hfz57_1, hfz57_2⟩ := blk3 BK189.out) | ((with_reducible refine gate_callee (f := 116) rfl ?_); refine goesL_ (some 22) rfl rfl Try.func116 (by kernel_rfl) rfl #[.slice A0 l0.length c0, .agg #[.int .i64 x190000_1, .int .i64 x190001_1, .int .i64 a1_2]] rfl (by (try simp only [List.map_toArray, List.map_cons, List.map_nil]); first | done | rfl | (simp only [List.length_drop, List.length_take]; rfl)) ?_; (with_reducible refine (spec_ActionFor.calls k1 _ _ l0 x190000_1 x190001_1 a1_2 t196 _ ?side1 ?side2 A12.out).mono ?_); (case side1 => exact Kd.C_below HR0.out (by repeat (first | (with_reducible first | exact HB.out | apply eA | apply eN | apply eD | refine eS ?_ GE189.out | refine eS ?_ GE190.out | refine eS ?_ GE191.out) | exact HB.out))); (case side2 => exact HC0.out); rintro e w58 ⟨rfl, hb⟩; refine ⟨_, rfl, ?_⟩; have n0_ := am (Kd.R_below (by (with_reducible repeat (first | apply Kd.R_alloc | apply Kd.R_drewN | apply Kd.R_drew)); exact (Kd.R_mono (Kd.R_far (p := ⟨gb191, 2, none⟩) (Kd.R_far (p := ⟨gb191, 1, none⟩) (Kd.R_far (p := ⟨gb191, 3, none⟩) (Kd.R_types HO195.out BK191.out (by decide)) (fun _ hk => hk.2) (.slice Ao55 y193.length co55)) (fun _ hk => hk.2) (.int .i64 x190000_1)) (fun _ hk => hk.2) (.int .i64 x190001_1)) (fun _ h_ => h_.1))) hb); have n1_ := am (blk_below (g := gb189) (o := .cells #[.int .i64 x190000_1, .int .i64 x190001_1, .int .i64 a1_2] 86 (0, 0)) (by (with_reducible repeat (first | apply bN | apply bD | apply bA)); refine blk_far ?_ NB189_191.out _; (with_reducible repeat (first | apply bN | apply bD | apply bA)); refine blk_far ?_ NB189_191.out _; (with_reducible repeat (first | apply bN | apply bD | apply bA)); refine blk_far ?_ NB189_191.out _; (with_reducible repeat (first | apply bN | apply bD | apply bA)); exact BK189.out) hb); have n2_ := am (blk_below (g := gb190) (o := .cells #[.int .i64 x191000_1, .int .i64 x191001_1, .int .i64 x191002_1, .slice none 0 0] 105 (0, 0)) (by (with_reducible repeat (first | apply bN | apply bD | apply bA)); refine blk_far ?_ NB190_191.out _; (with_reducible repeat (first | apply bN | apply bD | apply bA)); refine blk_far ?_ NB190_191.out _; (with_reducible repeat (first | apply bN | apply bD | apply bA)); refine blk_far ?_ NB190_191.out _; (with_reducible repeat (first | apply bN | apply bD | apply bA)); exact BK190.out) hb); have n3_ := am (blk_below (g := gb191) (o := .cells #[.int .i64 x192000_1, .int .i64 x190000_1, .int .i64 x190001_1, .slice Ao55 y193.length co55] 105 (0, 0)) (by (with_reducible repeat (first | apply bN | apply bD | apply bA)); refine blk_put (cs := #[.int .i64 x192000_1, .int .i64 x190000_1, .int .i64 x192002_1, .slice Ao55 y193.length co55]) ?_ 2 _ rfl; (with_reducible repeat (first | apply bN | apply bD | apply bA)); refine blk_put (cs := #[.int .i64 x192000_1, .int .i64 x192001_1, .int .i64 x192002_1, .slice Ao55 y193.length co55]) ?_ 1 _ rfl; (with_reducible repeat (first | apply bN | apply bD | apply bA)); refine blk_put (cs := #[.int .i64 x192000_1, .int .i64 x192001_1, .int .i64 x192002_1, u192003]) ?_ 3 _ rfl; (with_reducible repeat (first | apply bN | apply bD | apply bA)); exact BK191.out) hb); have n4_ := am (below_step (by repeat (first | (with_reducible first | exact HB.out | apply eA | apply eN | apply eD | refine eS ?_ GE189.out | refine eS ?_ GE190.out | refine eS ?_ GE191.out) | exact HB.out)) hb); clear HO195; clear BK189; clear BK190; clear BK191; clear HB; have HO195 := n0_; have BK189 := n1_; have BK190 := n2_; have BK191 := n3_; have HB := n4_; clear n0_ n1_ n2_ n3_ n4_; (try clear hb); (try clear hb2); (try clear hk); (try clear hi); obtain ⟨hcz59_0, hcz59_1, hcz59_2, hfz59_0, hfz59_1, hfz59_2⟩ := blk3 BK189.out) | ((with_reducible refine gate_callee (f := 117) rfl ?_); refine goesL_ (some 34) rfl rfl Try.func117 (by kernel_rfl) rfl #[.slice A0 l0.length c0, .agg #[.int .i64 x190000_1, .int .i64 x190001_1, .int .i64 a1_2]] rfl (by (try simp only [List.map_toArray, List.map_cons, List.map_nil]); first | done | rfl | (simp only [List.length_drop, List.length_take]; rfl)) ?_; (with_reducible refine (spec_DecideRule.calls k1 _ _ l0 x190000_1 x190001_1 a1_2 t197 _ ?side1 ?side2 A43.out).mono ?_); (case side1 => repeat (first | exact (Kd.C_below HR0.out HB.out) | (with_reducible refine Kd.C_alloc ?_ _) | (with_reducible refine Kd.C_drewN ?_ _) | (with_reducible refine Kd.C_drew ?_))); (case side2 => exact HC0.out); rintro e w60 ⟨rfl, hb⟩; refine ⟨_, rfl, ?_⟩; have n0_ := am (Kd.R_below (by (with_reducible repeat (first | apply Kd.R_alloc | apply Kd.R_drewN | apply Kd.R_drew)); exact HO195.out) hb); have n1_ := am (blk_below (by (with_reducible repeat (first | apply bN | apply bD | apply bA)); exact BK189.out) hb); have n2_ := am (blk_below (by (with_reducible repeat (first | apply bN | apply bD | apply bA)); exact BK190.out) hb); have n3_ := am (blk_below (by (with_reducible repeat (first | apply bN | apply bD | apply bA)); exact BK191.out) hb); have n4_ := am (below_step (by repeat (first | (with_reducible first | exact HB.out | apply eA | apply eN | apply eD | refine eS ?_ GE189.out | refine eS ?_ GE190.out | refine eS ?_ GE191.out) | exact HB.out)) hb); clear HO195; clear BK189; clear BK190; clear BK191; clear HB; have HO195 := n0_; have BK189 := n1_; have BK190 := n2_; have BK191 := n3_; have HB := n4_; clear n0_ n1_ n2_ n3_ n4_; (try clear hb); (try clear hb2); (try clear hk); (try clear hi); have p198 : 0 ≤ (t197 : Int) := of_decide_eq_true (by first | (with_reducible assumption) | assumption); have q198 : t197 < (l0.length : Int) := of_decide_eq_true (by first | (with_reducible assumption) | assumption); obtain ⟨ad198, e198, hx198_0, hx198_1, hx198_2, hx198_3, hx198_4, hx198_5, hx198_6, hx198_7⟩ := at_T35 HR0.out t197 p198 q198; cases e198; replace hx198_0 := hc_ HB hx198_0; replace hx198_1 := hc_ HB hx198_1; replace hx198_2 := hc_ HB hx198_2; replace hx198_3 := hc_ HB hx198_3; replace hx198_4 := hc_ HB hx198_4; replace hx198_5 := hc_ HB hx198_5; replace hx198_6 := hc_ HB hx198_6; replace hx198_7 := hc_ HB hx198_7; replace p198 := eq_true p198; replace q198 := eq_true q198) | ((with_reducible refine gate_dst (N := 6) rfl ?_); (try (refine gate_guard (by rfl) ?_; dsimp only)); refine box_event ?hg (N := 6) ?hd (cs := #[.int .i64 0, .int .i64 0]) (t := 33) ?hr ?_; (case hd => rfl); (case hg => rfl); (case hr => first | (go_simp; done) | (go_simp; rfl)); intro gb199 hg w61 hbox hb; have n0_ := am (Kd.R_below (Kd.R_elderB (by (with_reducible repeat (first | apply Kd.R_alloc | apply Kd.R_drewN | apply Kd.R_drew)); exact HO195.out) gb199 (Nat.le_of_eq hg.symm)) hb); have n1_ := am (blk_below (by (with_reducible repeat (first | apply bN | apply bD | apply bA)); exact BK189.out) hb); have n2_ := am (blk_below (by (with_reducible repeat (first | apply bN | apply bD | apply bA)); exact BK190.out) hb); have n3_ := am (blk_below (by (with_reducible repeat (first | apply bN | apply bD | apply bA)); exact BK191.out) hb); have q_ := hbx_ (by repeat (first | (with_reducible first | exact HB.out | apply eA | apply eN | apply eD | refine eS ?_ GE189.out | refine eS ?_ GE190.out | refine eS ?_ GE191.out) | exact HB.out)) hg hb; have n4_ := q_.1; have n5_ := am (hbox); have n6_ := q_.2; have n7_ := n6_; have n8_ := am ((by rw [hg]; exact Nat.ne_of_lt (blk_lt (g := gb189) (o := .cells #[.int .i64 x190000_1, .int .i64 x190001_1, .int .i64 a1_2] 86 (0, 0)) (by (with_reducible repeat (first | apply bN | apply bD | apply bA)); exact BK189.out)) : gb189 ≠ gb199)); have n9_ := am ((by rw [hg]; exact Nat.ne_of_gt (blk_lt (g := gb189) (o := .cells #[.int .i64 x190000_1, .int .i64 x190001_1, .int .i64 a1_2] 86 (0, 0)) (by (with_reducible repeat (first | apply bN | apply bD | apply bA)); exact BK189.out)) : gb199 ≠ gb189)); have n10_ := am ((by rw [hg]; exact Nat.ne_of_lt (blk_lt (g := gb190) (o := .cells #[.int .i64 x191000_1, .int .i64 x191001_1, .int .i64 x191002_1, .slice none 0 0] 105 (0, 0)) (by (with_reducible repeat (first | apply bN | apply bD | apply bA)); exact BK190.out)) : gb190 ≠ gb199)); have n11_ := am ((by rw [hg]; exact Nat.ne_of_gt (blk_lt (g := gb190) (o := .cells #[.int .i64 x191000_1, .int .i64 x191001_1, .int .i64 x191002_1, .slice none 0 0] 105 (0, 0)) (by (with_reducible repeat (first | apply bN | apply bD | apply bA)); exact BK190.out)) : gb199 ≠ gb190)); have n12_ := am ((by rw [hg]; exact Nat.ne_of_lt (blk_lt (g := gb191) (o := .cells #[.int .i64 x192000_1, .int .i64 x190000_1, .int .i64 x190001_1, .slice Ao55 y193.length co55] 105 (0, 0)) (by (with_reducible repeat (first | apply bN | apply bD | apply bA)); exact BK191.out)) : gb191 ≠ gb199)); have n13_ := am ((by rw [hg]; exact Nat.ne_of_gt (blk_lt (g := gb191) (o := .cells #[.int .i64 x192000_1, .int .i64 x190000_1, .int .i64 x190001_1, .slice Ao55 y193.length co55] 105 (0, 0)) (by (with_reducible repeat (first | apply bN | apply bD | apply bA)); exact BK191.out)) : gb199 ≠ gb191)); clear HO195; clear BK189; clear BK190; clear BK191; clear HB; have HO195 := n0_; have BK189 := n1_; have BK190 := n2_; have BK191 := n3_; have HB := n4_; have BK199 := n5_; have GW199 := n6_; have GE199 := n7_; have NB189_199 := n8_; have NB199_189 := n9_; have NB190_199 := n10_; have NB199_190 := n11_; have NB191_199 := n12_; have NB199_191 := n13_; clear n0_ n1_ n2_ n3_ n4_ n5_ n6_ n7_ n8_ n9_ n10_ n11_ n12_ n13_; clear hb hbox hg; have hnb62 := NB199_189.out; have hnc62 := NB189_199.out; have hnb63 := NB199_190.out; have hnc63 := NB190_199.out; have hnb64 := NB199_191.out; have hnc64 := NB191_199.out; obtain ⟨hcz65_0, hcz65_1, hfz65_0, hfz65_1⟩ := blk2 BK199.out))
         (try simp only [Act.put, List.setIfInBounds_toArray, List.set_cons_zero, List.set_cons_succ])
         go_cut [47] (fun v47 wc => ∃ (kq : Nat) (x47_45 : Bool), v47 = .bool x47_45 ∧ Aside0 (spec_FollowRequest.j1 kq l0 x47_45 x190000_1 x190001_1 a1_2 x192000_1 x190000_1 x190001_1 y193 ((rd_T35 l0 t197).f5.f0) ((rd_T35 l0 t197).f5.f1) = some (r1, r2, r3, r4)) ∧ Aside0 (kq ≤ k1) ∧ Aside0 (Kd.R k33 33 wc w.heap.size (fun k_ => k_ ≠ gb199) (.slice Ao55 y193.length co55) y193) ∧ Aside0 (wc.heap[gb189]? = some (.cells #[.int .i64 x190000_1, .int .i64 x190001_1, .int .i64 a1_2] 86 (0, 0))) ∧ Aside0 (wc.heap[gb190]? = some (.cells #[.int .i64 x191000_1, .int .i64 x191001_1, .int .i64 x191002_1, (.slice none 0 0)] 105 (0, 0))) ∧ Aside0 (wc.heap[gb191]? = some (.cells #[.int .i64 x192000_1, .int .i64 x190000_1, .int .i64 x190001_1, (.slice Ao55 y193.length co55)] 105 (0, 0))) ∧ Aside0 (wc.heap[gb199]? = some (.cells #[.int .i64 ((rd_T35 l0 t197).f5.f0), .int .i64 ((rd_T35 l0 t197).f5.f1)] 33 (0, 0))) ∧ Aside0 (Below w.heap.size w wc))
         case first =>
          have H := HC46.out
          clear HC46
          replace H := Option.bind_eq_some_iff.mp H
          obtain ⟨t200, A660, H⟩ := H
          replace H : (if t200 = true then (spec_FollowRequest.j1 k1 l0 true x190000_1 x190001_1 a1_2 x192000_1 x190000_1 x190001_1 y193 ((rd_T35 l0 t197).f5.f0) ((rd_T35 l0 t197).f5.f1)) else (spec_FollowRequest.j1 k1 l0 (decide ((y193.length : Int) ≥ 6)) x190000_1 x190001_1 a1_2 x192000_1 x190000_1 x190001_1 y193 ((rd_T35 l0 t197).f5.f0) ((rd_T35 l0 t197).f5.f1))) = some (r1, r2, r3, r4) := H
          have A66 := Aside0.mk A660
          clear A660
          by_cases c67 : t200 = true
          ·subst c67
           have H1 : (spec_FollowRequest.j1 k1 l0 true x190000_1 x190001_1 a1_2 x192000_1 x190000_1 x190001_1 y193 ((rd_T35 l0 t197).f5.f0) ((rd_T35 l0 t197).f5.f1)) = some (r1, r2, r3, r4) := by rw [if_pos rfl] at H; exact H
           clear H
           have H := H1
           clear H1
           have H' := Aside0.mk H
           clear H
           have hnb68 := NB191_189.out
           have hnc68 := NB189_191.out
           have hnb69 := NB191_190.out
           have hnc69 := NB190_191.out
           have hnb70 := NB191_199.out
           have hnc70 := NB199_191.out
           have hcz71_0 : w61.cell? ⟨gb191, 0, none⟩ = some (.int .i64 x192000_1) := (blk_cell BK191.out 0).trans rfl
           have hcz71_1 : w61.cell? ⟨gb191, 1, none⟩ = some (.int .i64 x190000_1) := (blk_cell BK191.out 1).trans rfl
           have hcz71_2 : w61.cell? ⟨gb191, 2, none⟩ = some (.int .i64 x190001_1) := (blk_cell BK191.out 2).trans rfl
           have hcz71_3 : w61.cell? ⟨gb191, 3, none⟩ = some (.slice Ao55 y193.length co55) := (blk_cell BK191.out 3).trans rfl
           have hfz71_0 := blk_frozen BK191.out 0
           have hfz71_1 := blk_frozen BK191.out 1
           have hfz71_2 := blk_frozen BK191.out 2
           have hfz71_3 := blk_frozen BK191.out 3
           have hnb72 := NB199_189.out
           have hnc72 := NB189_199.out
           have hnb73 := NB199_190.out
           have hnc73 := NB190_199.out
           have hcz74_0 : w61.cell? ⟨gb199, 0, none⟩ = some (.int .i64 0) := (blk_cell BK199.out 0).trans rfl
           have hcz74_1 : w61.cell? ⟨gb199, 1, none⟩ = some (.int .i64 0) := (blk_cell BK199.out 1).trans rfl
           have hfz74_0 := blk_frozen BK199.out 0
           have hfz74_1 := blk_frozen BK199.out 1
           go_wp2_with (first | ((with_reducible refine gate_callee (f := 118) rfl ?_); refine goesL_ (some 41) rfl rfl Try.func118 (by kernel_rfl) rfl #[.slice Ao55 y193.length co55, .agg #[.int .i64 ((rd_T35 l0 t197).f5.f0), .int .i64 ((rd_T35 l0 t197).f5.f1)]] rfl (by (try simp only [List.map_toArray, List.map_cons, List.map_nil]); first | done | rfl | (simp only [List.length_drop, List.length_take]; rfl)) ?_; (with_reducible refine (spec_l18Has.calls k1 _ _ y193 ((rd_T35 l0 t197).f5.f0) ((rd_T35 l0 t197).f5.f1) true _ ?side1 ?side2 A66.out).mono ?_); (case side1 => refine (Kd.R_reads' (e := 33) (base := w.heap.size) (ok := fun k_ => (True ∧ k_ ≠ gb199)) (n := y193.length) (c := co55) ?_).2.2; exact (by (with_reducible repeat (first | apply Kd.R_alloc | apply Kd.R_drewN | apply Kd.R_drew)); exact (Kd.R_mono (Kd.R_far (p := ⟨gb199, 1, none⟩) (Kd.R_far (p := ⟨gb199, 0, none⟩) (Kd.R_mono HO195.out (fun k_ hk => (⟨hk, hk.2⟩ : _ ∧ k_ ≠ gb199))) (fun _ hk => hk.2) (.int .i64 ((rd_T35 l0 t197).f5.f0))) (fun _ hk => hk.2) (.int .i64 ((rd_T35 l0 t197).f5.f1))) (fun _ h_ => h_.1)))); (case side2 => exact (Kd.R_reads' HO195.out).2.1); rintro e w75 ⟨rfl, hb⟩; refine ⟨_, rfl, ?_⟩; have n0_ := am (Kd.R_below (by (with_reducible repeat (first | apply Kd.R_alloc | apply Kd.R_drewN | apply Kd.R_drew)); exact (Kd.R_mono (Kd.R_far (p := ⟨gb199, 1, none⟩) (Kd.R_far (p := ⟨gb199, 0, none⟩) (Kd.R_mono HO195.out (fun k_ hk => (⟨hk, hk.2⟩ : _ ∧ k_ ≠ gb199))) (fun _ hk => hk.2) (.int .i64 ((rd_T35 l0 t197).f5.f0))) (fun _ hk => hk.2) (.int .i64 ((rd_T35 l0 t197).f5.f1))) (fun _ h_ => h_.1))) hb); have n1_ := am (blk_below (g := gb189) (o := .cells #[.int .i64 x190000_1, .int .i64 x190001_1, .int .i64 a1_2] 86 (0, 0)) (by (with_reducible repeat (first | apply bN | apply bD | apply bA)); refine blk_far ?_ NB189_199.out _; (with_reducible repeat (first | apply bN | apply bD | apply bA)); refine blk_far ?_ NB189_199.out _; (with_reducible repeat (first | apply bN | apply bD | apply bA)); exact BK189.out) hb); have n2_ := am (blk_below (g := gb190) (o := .cells #[.int .i64 x191000_1, .int .i64 x191001_1, .int .i64 x191002_1, .slice none 0 0] 105 (0, 0)) (by (with_reducible repeat (first | apply bN | apply bD | apply bA)); refine blk_far ?_ NB190_199.out _; (with_reducible repeat (first | apply bN | apply bD | apply bA)); refine blk_far ?_ NB190_199.out _; (with_reducible repeat (first | apply bN | apply bD | apply bA)); exact BK190.out) hb); have n3_ := am (blk_below (g := gb191) (o := .cells #[.int .i64 x192000_1, .int .i64 x190000_1, .int .i64 x190001_1, .slice Ao55 y193.length co55] 105 (0, 0)) (by (with_reducible repeat (first | apply bN | apply bD | apply bA)); refine blk_far ?_ NB191_199.out _; (with_reducible repeat (first | apply bN | apply bD | apply bA)); refine blk_far ?_ NB191_199.out _; (with_reducible repeat (first | apply bN | apply bD | apply bA)); exact BK191.out) hb); have n4_ := am (blk_below (g := gb199) (o := .cells #[.int .i64 ((rd_T35 l0 t197).f5.f0), .int .i64 ((rd_T35 l0 t197).f5.f1)] 33 (0, 0)) (by (with_reducible repeat (first | apply bN | apply bD | apply bA)); refine blk_put (cs := #[.int .i64 ((rd_T35 l0 t197).f5.f0), .int .i64 0]) ?_ 1 _ rfl; (with_reducible repeat (first | apply bN | apply bD | apply bA)); refine blk_put (cs := #[.int .i64 0, .int .i64 0]) ?_ 0 _ rfl; (with_reducible repeat (first | apply bN | apply bD | apply bA)); exact BK199.out) hb); have n5_ := am (below_step (by repeat (first | (with_reducible first | exact HB.out | apply eA | apply eN | apply eD | refine eS ?_ GE189.out | refine eS ?_ GE190.out | refine eS ?_ GE191.out | refine eS ?_ GE199.out) | exact HB.out)) hb); clear HO195; clear BK189; clear BK190; clear BK191; clear BK199; clear HB; have HO195 := n0_; have BK189 := n1_; have BK190 := n2_; have BK191 := n3_; have BK199 := n4_; have HB := n5_; clear n0_ n1_ n2_ n3_ n4_ n5_; (try clear hb); (try clear hb2); (try clear hk); (try clear hi)))
           go_meet
           case rel => exact ⟨_, (true), (by first | rfl | (simp; done) | (simp [*]; done)), H', ⟨by have := HK1.out; first | omega | exact Nat.le_refl _⟩, ⟨by (with_reducible repeat (first | apply Kd.R_alloc | apply Kd.R_drewN | apply Kd.R_drew)); exact Kd.R_mono HO195.out (fun _ hk => hk.2)⟩, ⟨by (with_reducible repeat (first | apply bN | apply bD | apply bA)); exact BK189.out⟩, ⟨by (with_reducible repeat (first | apply bN | apply bD | apply bA)); exact BK190.out⟩, ⟨by (with_reducible repeat (first | apply bN | apply bD | apply bA)); exact BK191.out⟩, ⟨by (with_reducible repeat (first | apply bN | apply bD | apply bA)); exact BK199.out⟩, ⟨by repeat (first | (with_reducible first | exact HB.out | apply eA | apply eN | apply eD | refine eS ?_ GE189.out | refine eS ?_ GE190.out | refine eS ?_ GE191.out | refine eS ?_ GE199.out) | exact HB.out)⟩⟩
          ·replace c67 := Bool.eq_false_iff.mpr c67
           subst c67
           have H1 : (spec_FollowRequest.j1 k1 l0 (decide ((y193.length : Int) ≥ 6)) x190000_1 x190001_1 a1_2 x192000_1 x190000_1 x190001_1 y193 ((rd_T35 l0 t197).f5.f0) ((rd_T35 l0 t197).f5.f1)) = some (r1, r2, r3, r4) := by rw [if_neg (show ¬ (false = true) by decide)] at H; exact H
           clear H
           have H := H1
           clear H1
           have H' := Aside0.mk H
           clear H
           have hnb76 := NB191_189.out
           have hnc76 := NB189_191.out
           have hnb77 := NB191_190.out
           have hnc77 := NB190_191.out
           have hnb78 := NB191_199.out
           have hnc78 := NB199_191.out
           have hcz79_0 : w61.cell? ⟨gb191, 0, none⟩ = some (.int .i64 x192000_1) := (blk_cell BK191.out 0).trans rfl
           have hcz79_1 : w61.cell? ⟨gb191, 1, none⟩ = some (.int .i64 x190000_1) := (blk_cell BK191.out 1).trans rfl
           have hcz79_2 : w61.cell? ⟨gb191, 2, none⟩ = some (.int .i64 x190001_1) := (blk_cell BK191.out 2).trans rfl
           have hcz79_3 : w61.cell? ⟨gb191, 3, none⟩ = some (.slice Ao55 y193.length co55) := (blk_cell BK191.out 3).trans rfl
           have hfz79_0 := blk_frozen BK191.out 0
           have hfz79_1 := blk_frozen BK191.out 1
           have hfz79_2 := blk_frozen BK191.out 2
           have hfz79_3 := blk_frozen BK191.out 3
           have hnb80 := NB199_189.out
           have hnc80 := NB189_199.out
           have hnb81 := NB199_190.out
           have hnc81 := NB190_199.out
           have hcz82_0 : w61.cell? ⟨gb199, 0, none⟩ = some (.int .i64 0) := (blk_cell BK199.out 0).trans rfl
           have hcz82_1 : w61.cell? ⟨gb199, 1, none⟩ = some (.int .i64 0) := (blk_cell BK199.out 1).trans rfl
           have hfz82_0 := blk_frozen BK199.out 0
           have hfz82_1 := blk_frozen BK199.out 1
           go_wp2_with (first | ((with_reducible refine gate_callee (f := 118) rfl ?_); refine goesL_ (some 41) rfl rfl Try.func118 (by kernel_rfl) rfl #[.slice Ao55 y193.length co55, .agg #[.int .i64 ((rd_T35 l0 t197).f5.f0), .int .i64 ((rd_T35 l0 t197).f5.f1)]] rfl (by (try simp only [List.map_toArray, List.map_cons, List.map_nil]); first | done | rfl | (simp only [List.length_drop, List.length_take]; rfl)) ?_; (with_reducible refine (spec_l18Has.calls k1 _ _ y193 ((rd_T35 l0 t197).f5.f0) ((rd_T35 l0 t197).f5.f1) false _ ?side1 ?side2 A66.out).mono ?_); (case side1 => refine (Kd.R_reads' (e := 33) (base := w.heap.size) (ok := fun k_ => (True ∧ k_ ≠ gb199)) (n := y193.length) (c := co55) ?_).2.2; exact (by (with_reducible repeat (first | apply Kd.R_alloc | apply Kd.R_drewN | apply Kd.R_drew)); exact (Kd.R_mono (Kd.R_far (p := ⟨gb199, 1, none⟩) (Kd.R_far (p := ⟨gb199, 0, none⟩) (Kd.R_mono HO195.out (fun k_ hk => (⟨hk, hk.2⟩ : _ ∧ k_ ≠ gb199))) (fun _ hk => hk.2) (.int .i64 ((rd_T35 l0 t197).f5.f0))) (fun _ hk => hk.2) (.int .i64 ((rd_T35 l0 t197).f5.f1))) (fun _ h_ => h_.1)))); (case side2 => exact (Kd.R_reads' HO195.out).2.1); rintro e w83 ⟨rfl, hb⟩; refine ⟨_, rfl, ?_⟩; have n0_ := am (Kd.R_below (by (with_reducible repeat (first | apply Kd.R_alloc | apply Kd.R_drewN | apply Kd.R_drew)); exact (Kd.R_mono (Kd.R_far (p := ⟨gb199, 1, none⟩) (Kd.R_far (p := ⟨gb199, 0, none⟩) (Kd.R_mono HO195.out (fun k_ hk => (⟨hk, hk.2⟩ : _ ∧ k_ ≠ gb199))) (fun _ hk => hk.2) (.int .i64 ((rd_T35 l0 t197).f5.f0))) (fun _ hk => hk.2) (.int .i64 ((rd_T35 l0 t197).f5.f1))) (fun _ h_ => h_.1))) hb); have n1_ := am (blk_below (g := gb189) (o := .cells #[.int .i64 x190000_1, .int .i64 x190001_1, .int .i64 a1_2] 86 (0, 0)) (by (with_reducible repeat (first | apply bN | apply bD | apply bA)); refine blk_far ?_ NB189_199.out _; (with_reducible repeat (first | apply bN | apply bD | apply bA)); refine blk_far ?_ NB189_199.out _; (with_reducible repeat (first | apply bN | apply bD | apply bA)); exact BK189.out) hb); have n2_ := am (blk_below (g := gb190) (o := .cells #[.int .i64 x191000_1, .int .i64 x191001_1, .int .i64 x191002_1, .slice none 0 0] 105 (0, 0)) (by (with_reducible repeat (first | apply bN | apply bD | apply bA)); refine blk_far ?_ NB190_199.out _; (with_reducible repeat (first | apply bN | apply bD | apply bA)); refine blk_far ?_ NB190_199.out _; (with_reducible repeat (first | apply bN | apply bD | apply bA)); exact BK190.out) hb); have n3_ := am (blk_below (g := gb191) (o := .cells #[.int .i64 x192000_1, .int .i64 x190000_1, .int .i64 x190001_1, .slice Ao55 y193.length co55] 105 (0, 0)) (by (with_reducible repeat (first | apply bN | apply bD | apply bA)); refine blk_far ?_ NB191_199.out _; (with_reducible repeat (first | apply bN | apply bD | apply bA)); refine blk_far ?_ NB191_199.out _; (with_reducible repeat (first | apply bN | apply bD | apply bA)); exact BK191.out) hb); have n4_ := am (blk_below (g := gb199) (o := .cells #[.int .i64 ((rd_T35 l0 t197).f5.f0), .int .i64 ((rd_T35 l0 t197).f5.f1)] 33 (0, 0)) (by (with_reducible repeat (first | apply bN | apply bD | apply bA)); refine blk_put (cs := #[.int .i64 ((rd_T35 l0 t197).f5.f0), .int .i64 0]) ?_ 1 _ rfl; (with_reducible repeat (first | apply bN | apply bD | apply bA)); refine blk_put (cs := #[.int .i64 0, .int .i64 0]) ?_ 0 _ rfl; (with_reducible repeat (first | apply bN | apply bD | apply bA)); exact BK199.out) hb); have n5_ := am (below_step (by repeat (first | (with_reducible first | exact HB.out | apply eA | apply eN | apply eD | refine eS ?_ GE189.out | refine eS ?_ GE190.out | refine eS ?_ GE191.out | refine eS ?_ GE199.out) | exact HB.out)) hb); clear HO195; clear BK189; clear BK190; clear BK191; clear BK199; clear HB; have HO195 := n0_; have BK189 := n1_; have BK190 := n2_; have BK191 := n3_; have BK199 := n4_; have HB := n5_; clear n0_ n1_ n2_ n3_ n4_ n5_; (try clear hb); (try clear hb2); (try clear hk); (try clear hi); obtain ⟨hcz84_0, hcz84_1, hcz84_2, hcz84_3, hfz84_0, hfz84_1, hfz84_2, hfz84_3⟩ := blk4 BK191.out))
           go_meet
           case rel => exact ⟨_, (decide ((y193.length : Int) ≥ 6)), (by first | rfl | (simp; done) | (simp [*]; done)), H', ⟨by have := HK1.out; first | omega | exact Nat.le_refl _⟩, ⟨by (with_reducible repeat (first | apply Kd.R_alloc | apply Kd.R_drewN | apply Kd.R_drew)); exact Kd.R_mono HO195.out (fun _ hk => hk.2)⟩, ⟨by (with_reducible repeat (first | apply bN | apply bD | apply bA)); exact BK189.out⟩, ⟨by (with_reducible repeat (first | apply bN | apply bD | apply bA)); exact BK190.out⟩, ⟨by (with_reducible repeat (first | apply bN | apply bD | apply bA)); exact BK191.out⟩, ⟨by (with_reducible repeat (first | apply bN | apply bD | apply bA)); exact BK199.out⟩, ⟨by repeat (first | (with_reducible first | exact HB.out | apply eA | apply eN | apply eD | refine eS ?_ GE189.out | refine eS ?_ GE190.out | refine eS ?_ GE191.out | refine eS ?_ GE199.out) | exact HB.out)⟩⟩
         case rest =>
          clear HC46
          try clear c1
          try clear p1
          try clear q1
          try clear hx1
          try clear c2
          try clear p2
          try clear c3
          try clear c4
          try clear c5
          try clear c6
          try clear c7
          try clear c8
          try clear c10
          try clear c11
          try clear c13
          try clear c13b0
          try clear c13b1
          try clear c14
          try clear c15
          try clear c18
          try clear p19
          try clear q19
          try clear hx19
          try clear c28
          try clear c28b0
          try clear c28b1
          try clear c29
          try clear c30
          try clear c33
          try clear c44
          try clear c44b0
          try clear c45
          try clear c45b0
          try clear c47
          try clear c48
          try clear c51
          try clear c62
          try clear c63
          try clear c64
          try clear c67
          try clear c68
          try clear c69
          try clear c70
          try clear c72
          try clear c73
          try clear c74
          try clear c76
          try clear c77
          try clear c78
          try clear c80
          try clear c81
          try clear hcz16_0
          try clear hcz16_1
          try clear hcz16_2
          try clear hcz19_0
          try clear hcz19_1
          try clear hcz19_2
          try clear hcz19_3
          try clear hcz20_0
          try clear hcz20_1
          try clear hcz20_2
          try clear hcz23_0
          try clear hcz23_1
          try clear hcz23_2
          try clear hcz23_3
          try clear hcz24_0
          try clear hcz24_1
          try clear hcz24_2
          try clear hcz26_0
          try clear hcz26_1
          try clear hcz26_2
          try clear hcz26_3
          try clear hcz27_0
          try clear hcz27_1
          try clear hcz27_2
          try clear hcz27_3
          try clear hcz31_0
          try clear hcz31_1
          try clear hcz31_2
          try clear hcz34_0
          try clear hcz34_1
          try clear hcz34_2
          try clear hcz34_3
          try clear hcz35_0
          try clear hcz35_1
          try clear hcz35_2
          try clear hcz38_0
          try clear hcz38_1
          try clear hcz38_2
          try clear hcz38_3
          try clear hcz39_0
          try clear hcz39_1
          try clear hcz39_2
          try clear hcz41_0
          try clear hcz41_1
          try clear hcz41_2
          try clear hcz41_3
          try clear hcz42_0
          try clear hcz42_1
          try clear hcz42_2
          try clear hcz42_3
          try clear hcz49_0
          try clear hcz49_1
          try clear hcz49_2
          try clear hcz52_0
          try clear hcz52_1
          try clear hcz52_2
          try clear hcz52_3
          try clear hcz53_0
          try clear hcz53_1
          try clear hcz53_2
          try clear hcz56_0
          try clear hcz56_1
          try clear hcz56_2
          try clear hcz56_3
          try clear hcz57_0
          try clear hcz57_1
          try clear hcz57_2
          try clear hcz59_0
          try clear hcz59_1
          try clear hcz59_2
          try clear hcz65_0
          try clear hcz65_1
          try clear hcz71_0
          try clear hcz71_1
          try clear hcz71_2
          try clear hcz71_3
          try clear hcz74_0
          try clear hcz74_1
          try clear hcz79_0
          try clear hcz79_1
          try clear hcz79_2
          try clear hcz79_3
          try clear hcz82_0
          try clear hcz82_1
          try clear hcz84_0
          try clear hcz84_1
          try clear hcz84_2
          try clear hcz84_3
          try clear hcz8_0
          try clear hcz8_1
          try clear hcz8_2
          try clear hcz8_3
          try clear hfz16_0
          try clear hfz16_1
          try clear hfz16_2
          try clear hfz19_0
          try clear hfz19_1
          try clear hfz19_2
          try clear hfz19_3
          try clear hfz20_0
          try clear hfz20_1
          try clear hfz20_2
          try clear hfz23_0
          try clear hfz23_1
          try clear hfz23_2
          try clear hfz23_3
          try clear hfz24_0
          try clear hfz24_1
          try clear hfz24_2
          try clear hfz26_0
          try clear hfz26_1
          try clear hfz26_2
          try clear hfz26_3
          try clear hfz27_0
          try clear hfz27_1
          try clear hfz27_2
          try clear hfz27_3
          try clear hfz31_0
          try clear hfz31_1
          try clear hfz31_2
          try clear hfz34_0
          try clear hfz34_1
          try clear hfz34_2
          try clear hfz34_3
          try clear hfz35_0
          try clear hfz35_1
          try clear hfz35_2
          try clear hfz38_0
          try clear hfz38_1
          try clear hfz38_2
          try clear hfz38_3
          try clear hfz39_0
          try clear hfz39_1
          try clear hfz39_2
          try clear hfz41_0
          try clear hfz41_1
          try clear hfz41_2
          try clear hfz41_3
          try clear hfz42_0
          try clear hfz42_1
          try clear hfz42_2
          try clear hfz42_3
          try clear hfz49_0
          try clear hfz49_1
          try clear hfz49_2
          try clear hfz52_0
          try clear hfz52_1
          try clear hfz52_2
          try clear hfz52_3
          try clear hfz53_0
          try clear hfz53_1
          try clear hfz53_2
          try clear hfz56_0
          try clear hfz56_1
          try clear hfz56_2
          try clear hfz56_3
          try clear hfz57_0
          try clear hfz57_1
          try clear hfz57_2
          try clear hfz59_0
          try clear hfz59_1
          try clear hfz59_2
          try clear hfz65_0
          try clear hfz65_1
          try clear hfz71_0
          try clear hfz71_1
          try clear hfz71_2
          try clear hfz71_3
          try clear hfz74_0
          try clear hfz74_1
          try clear hfz79_0
          try clear hfz79_1
          try clear hfz79_2
          try clear hfz79_3
          try clear hfz82_0
          try clear hfz82_1
          try clear hfz84_0
          try clear hfz84_1
          try clear hfz84_2
          try clear hfz84_3
          try clear hfz8_0
          try clear hfz8_1
          try clear hfz8_2
          try clear hfz8_3
          try clear hx198_0
          try clear hx198_1
          try clear hx198_2
          try clear hx198_3
          try clear hx198_4
          try clear hx198_5
          try clear hx198_6
          try clear hx198_7
          try clear p198
          try clear p2
          try clear q198
          obtain ⟨kq, x47_45, rfl, HA, HJ45, HO_192003, BK189, BK190, BK191, BK199, HB⟩ := hcut
          cases kq with
          | zero => exact absurd HA.out (by simp [spec_FollowRequest.j1])
          | succ kj45 =>
           have H := HA.out
           clear HA
           simp only [spec_FollowRequest.j1] at H
           by_cases c85 : x47_45 = true
           ·subst c85
            have H1 : ((spec_l18Has.f kj45 y193 ((rd_T35 l0 t197).f5.f0) ((rd_T35 l0 t197).f5.f1)).bind fun t201 => (if t201 = true then (some (3, ((rd_T35 l0 t197).f5.f0), ((rd_T35 l0 t197).f5.f1), y193)) else (some (4, ((rd_T35 l0 t197).f5.f0), ((rd_T35 l0 t197).f5.f1), y193)))) = some (r1, r2, r3, r4) := by rw [if_pos rfl] at H; exact H
            clear H
            have H := H1
            clear H1
            replace H := Option.bind_eq_some_iff.mp H
            obtain ⟨t201, A860, H⟩ := H
            replace H : (if t201 = true then (some (3, ((rd_T35 l0 t197).f5.f0), ((rd_T35 l0 t197).f5.f1), y193)) else (some (4, ((rd_T35 l0 t197).f5.f0), ((rd_T35 l0 t197).f5.f1), y193))) = some (r1, r2, r3, r4) := H
            have A86 := Aside0.mk A860
            clear A860
            by_cases c87 : t201 = true
            ·subst c87
             have H1 : (some (3, ((rd_T35 l0 t197).f5.f0), ((rd_T35 l0 t197).f5.f1), y193)) = some (r1, r2, r3, r4) := by rw [if_pos rfl] at H; exact H
             clear H
             have H := H1
             clear H1
             simp only [Option.some.injEq, Prod.mk.injEq] at H
             obtain ⟨rfl, rfl, rfl, rfl⟩ := H
             have hnb88 := NB199_189.out
             have hnc88 := NB189_199.out
             have hnb89 := NB199_190.out
             have hnc89 := NB190_199.out
             have hnb90 := NB199_191.out
             have hnc90 := NB191_199.out
             have hcz91_0 : wc.cell? ⟨gb199, 0, none⟩ = some (.int .i64 ((rd_T35 l0 t197).f5.f0)) := (blk_cell BK199.out 0).trans rfl
             have hcz91_1 : wc.cell? ⟨gb199, 1, none⟩ = some (.int .i64 ((rd_T35 l0 t197).f5.f1)) := (blk_cell BK199.out 1).trans rfl
             have hfz91_0 := blk_frozen BK199.out 0
             have hfz91_1 := blk_frozen BK199.out 1
             have hnb92 := NB191_189.out
             have hnc92 := NB189_191.out
             have hnb93 := NB191_190.out
             have hnc93 := NB190_191.out
             have hcz94_0 : wc.cell? ⟨gb191, 0, none⟩ = some (.int .i64 x192000_1) := (blk_cell BK191.out 0).trans rfl
             have hcz94_1 : wc.cell? ⟨gb191, 1, none⟩ = some (.int .i64 x190000_1) := (blk_cell BK191.out 1).trans rfl
             have hcz94_2 : wc.cell? ⟨gb191, 2, none⟩ = some (.int .i64 x190001_1) := (blk_cell BK191.out 2).trans rfl
             have hcz94_3 : wc.cell? ⟨gb191, 3, none⟩ = some (.slice Ao55 y193.length co55) := (blk_cell BK191.out 3).trans rfl
             have hfz94_0 := blk_frozen BK191.out 0
             have hfz94_1 := blk_frozen BK191.out 1
             have hfz94_2 := blk_frozen BK191.out 2
             have hfz94_3 := blk_frozen BK191.out 3
             go_wp2_with (first | ((with_reducible refine gate_callee (f := 118) rfl ?_); refine goesL_ (some 54) rfl rfl Try.func118 (by kernel_rfl) rfl #[.slice Ao55 y193.length co55, .agg #[.int .i64 ((rd_T35 l0 t197).f5.f0), .int .i64 ((rd_T35 l0 t197).f5.f1)]] rfl (by (try simp only [List.map_toArray, List.map_cons, List.map_nil]); first | done | rfl | (simp only [List.length_drop, List.length_take]; rfl)) ?_; (with_reducible refine (spec_l18Has.calls kj45 _ _ y193 ((rd_T35 l0 t197).f5.f0) ((rd_T35 l0 t197).f5.f1) true _ ?side1 ?side2 A86.out).mono ?_); (case side1 => refine (Kd.R_reads' (e := 33) (base := w.heap.size) (ok := fun k_ => k_ ≠ gb199) (n := y193.length) (c := co55) ?_).2.2; exact (by (with_reducible repeat (first | apply Kd.R_alloc | apply Kd.R_drewN | apply Kd.R_drew)); exact (Kd.R_mono (Kd.R_far (p := ⟨gb191, 0, none⟩) (Kd.R_far (p := ⟨gb191, 2, none⟩) (Kd.R_far (p := ⟨gb191, 1, none⟩) (Kd.R_types HO_192003.out BK191.out (by decide)) (fun _ hk => hk.2) (.int .i64 ((rd_T35 l0 t197).f5.f0))) (fun _ hk => hk.2) (.int .i64 ((rd_T35 l0 t197).f5.f1))) (fun _ hk => hk.2) (.int .i64 4)) (fun _ h_ => h_.1)))); (case side2 => exact (Kd.R_reads' HO_192003.out).2.1); rintro e w95 ⟨rfl, hb⟩; refine ⟨_, rfl, ?_⟩; have n0_ := am (Kd.R_below (by (with_reducible repeat (first | apply Kd.R_alloc | apply Kd.R_drewN | apply Kd.R_drew)); exact (Kd.R_mono (Kd.R_far (p := ⟨gb191, 0, none⟩) (Kd.R_far (p := ⟨gb191, 2, none⟩) (Kd.R_far (p := ⟨gb191, 1, none⟩) (Kd.R_types HO_192003.out BK191.out (by decide)) (fun _ hk => hk.2) (.int .i64 ((rd_T35 l0 t197).f5.f0))) (fun _ hk => hk.2) (.int .i64 ((rd_T35 l0 t197).f5.f1))) (fun _ hk => hk.2) (.int .i64 4)) (fun _ h_ => h_.1))) hb); have n1_ := am (blk_below (g := gb189) (o := .cells #[.int .i64 x190000_1, .int .i64 x190001_1, .int .i64 a1_2] 86 (0, 0)) (by (with_reducible repeat (first | apply bN | apply bD | apply bA)); refine blk_far ?_ NB189_191.out _; (with_reducible repeat (first | apply bN | apply bD | apply bA)); refine blk_far ?_ NB189_191.out _; (with_reducible repeat (first | apply bN | apply bD | apply bA)); refine blk_far ?_ NB189_191.out _; (with_reducible repeat (first | apply bN | apply bD | apply bA)); exact BK189.out) hb); have n2_ := am (blk_below (g := gb190) (o := .cells #[.int .i64 x191000_1, .int .i64 x191001_1, .int .i64 x191002_1, .slice none 0 0] 105 (0, 0)) (by (with_reducible repeat (first | apply bN | apply bD | apply bA)); refine blk_far ?_ NB190_191.out _; (with_reducible repeat (first | apply bN | apply bD | apply bA)); refine blk_far ?_ NB190_191.out _; (with_reducible repeat (first | apply bN | apply bD | apply bA)); refine blk_far ?_ NB190_191.out _; (with_reducible repeat (first | apply bN | apply bD | apply bA)); exact BK190.out) hb); have n3_ := am (blk_below (g := gb191) (o := .cells #[.int .i64 4, .int .i64 ((rd_T35 l0 t197).f5.f0), .int .i64 ((rd_T35 l0 t197).f5.f1), .slice Ao55 y193.length co55] 105 (0, 0)) (by (with_reducible repeat (first | apply bN | apply bD | apply bA)); refine blk_put (cs := #[.int .i64 x192000_1, .int .i64 ((rd_T35 l0 t197).f5.f0), .int .i64 ((rd_T35 l0 t197).f5.f1), .slice Ao55 y193.length co55]) ?_ 0 _ rfl; (with_reducible repeat (first | apply bN | apply bD | apply bA)); refine blk_put (cs := #[.int .i64 x192000_1, .int .i64 ((rd_T35 l0 t197).f5.f0), .int .i64 x190001_1, .slice Ao55 y193.length co55]) ?_ 2 _ rfl; (with_reducible repeat (first | apply bN | apply bD | apply bA)); refine blk_put (cs := #[.int .i64 x192000_1, .int .i64 x190000_1, .int .i64 x190001_1, .slice Ao55 y193.length co55]) ?_ 1 _ rfl; (with_reducible repeat (first | apply bN | apply bD | apply bA)); exact BK191.out) hb); have n4_ := am (blk_below (g := gb199) (o := .cells #[.int .i64 ((rd_T35 l0 t197).f5.f0), .int .i64 ((rd_T35 l0 t197).f5.f1)] 33 (0, 0)) (by (with_reducible repeat (first | apply bN | apply bD | apply bA)); refine blk_far ?_ NB199_191.out _; (with_reducible repeat (first | apply bN | apply bD | apply bA)); refine blk_far ?_ NB199_191.out _; (with_reducible repeat (first | apply bN | apply bD | apply bA)); refine blk_far ?_ NB199_191.out _; (with_reducible repeat (first | apply bN | apply bD | apply bA)); exact BK199.out) hb); have n5_ := am (below_step (by repeat (first | (with_reducible first | exact HB.out | apply eA | apply eN | apply eD | refine eS ?_ GE189.out | refine eS ?_ GE190.out | refine eS ?_ GE191.out | refine eS ?_ GE199.out) | exact HB.out)) hb); clear HO_192003; clear BK189; clear BK190; clear BK191; clear BK199; clear HB; have HO_192003 := n0_; have BK189 := n1_; have BK190 := n2_; have BK191 := n3_; have BK199 := n4_; have HB := n5_; clear n0_ n1_ n2_ n3_ n4_ n5_; (try clear hb); (try clear hb2); (try clear hk); (try clear hi); obtain ⟨hcz96_0, hcz96_1, hcz96_2, hcz96_3, hfz96_0, hfz96_1, hfz96_2, hfz96_3⟩ := blk4 BK191.out; have hnb97 := NB190_189.out; have hnc97 := NB189_190.out; obtain ⟨hcz98_0, hcz98_1, hcz98_2, hcz98_3, hfz98_0, hfz98_1, hfz98_2, hfz98_3⟩ := blk4 BK190.out))
             refine bodyPost_ret (results_cell_row rfl _ _ gb190 105 #[.int .i64 3, .int .i64 ((rd_T35 l0 t197).f5.f0), .int .i64 ((rd_T35 l0 t197).f5.f1), .slice Ao55 y193.length co55] (0, 0) _ rfl (by (with_reducible repeat (first | apply bN | apply bD | apply bA)); refine blk_put (cs := #[.int .i64 3, .int .i64 ((rd_T35 l0 t197).f5.f0), .int .i64 ((rd_T35 l0 t197).f5.f1), .slice none 0 0]) ?_ 3 _ rfl; (with_reducible repeat (first | apply bN | apply bD | apply bA)); refine blk_put (cs := #[.int .i64 3, .int .i64 ((rd_T35 l0 t197).f5.f0), .int .i64 x191002_1, .slice none 0 0]) ?_ 2 _ rfl; (with_reducible repeat (first | apply bN | apply bD | apply bA)); refine blk_put (cs := #[.int .i64 3, .int .i64 x191001_1, .int .i64 x191002_1, .slice none 0 0]) ?_ 1 _ rfl; (with_reducible repeat (first | apply bN | apply bD | apply bA)); refine blk_put (cs := #[.int .i64 x191000_1, .int .i64 x191001_1, .int .i64 x191002_1, .slice none 0 0]) ?_ 0 _ rfl; (with_reducible repeat (first | apply bN | apply bD | apply bA)); refine blk_far ?_ NB190_191.out _; (with_reducible repeat (first | apply bN | apply bD | apply bA)); exact BK190.out) Try.underlying105 rfl (by kernel_rfl)) rfl ?_
             exact ⟨_, by first | rfl | (simp [errW_none, errW_some] <;> rfl) | (simp [*, errW_none, errW_some] <;> rfl), by (with_reducible repeat (first | apply Kd.R_alloc | apply Kd.R_drewN | apply Kd.R_drew)); exact Kd.R_mono (Kd.R_far (p := ⟨gb190, 3, none⟩) (Kd.R_far (p := ⟨gb190, 2, none⟩) (Kd.R_far (p := ⟨gb190, 1, none⟩) (Kd.R_far (p := ⟨gb190, 0, none⟩) (Kd.R_far (p := ⟨gb191, 0, none⟩) (Kd.R_types (Kd.R_types HO_192003.out BK191.out (by decide)) BK190.out (by decide)) (fun _ hk => hk.1.2) (.int .i64 3)) (fun _ hk => hk.2) (.int .i64 3)) (fun _ hk => hk.2) (.int .i64 ((rd_T35 l0 t197).f5.f0))) (fun _ hk => hk.2) (.int .i64 ((rd_T35 l0 t197).f5.f1))) (fun _ hk => hk.2) (.slice Ao55 y193.length co55)) (fun _ hk => trivial), by repeat (first | (with_reducible first | exact HB.out | apply eA | apply eN | apply eD | refine eS ?_ GE189.out | refine eS ?_ GE190.out | refine eS ?_ GE191.out | refine eS ?_ GE199.out) | exact HB.out)⟩
            ·replace c87 := Bool.eq_false_iff.mpr c87
             subst c87
             have H1 : (some (4, ((rd_T35 l0 t197).f5.f0), ((rd_T35 l0 t197).f5.f1), y193)) = some (r1, r2, r3, r4) := by rw [if_neg (show ¬ (false = true) by decide)] at H; exact H
             clear H
             have H := H1
             clear H1
             simp only [Option.some.injEq, Prod.mk.injEq] at H
             obtain ⟨rfl, rfl, rfl, rfl⟩ := H
             have hnb99 := NB199_189.out
             have hnc99 := NB189_199.out
             have hnb100 := NB199_190.out
             have hnc100 := NB190_199.out
             have hnb101 := NB199_191.out
             have hnc101 := NB191_199.out
             have hcz102_0 : wc.cell? ⟨gb199, 0, none⟩ = some (.int .i64 ((rd_T35 l0 t197).f5.f0)) := (blk_cell BK199.out 0).trans rfl
             have hcz102_1 : wc.cell? ⟨gb199, 1, none⟩ = some (.int .i64 ((rd_T35 l0 t197).f5.f1)) := (blk_cell BK199.out 1).trans rfl
             have hfz102_0 := blk_frozen BK199.out 0
             have hfz102_1 := blk_frozen BK199.out 1
             have hnb103 := NB191_189.out
             have hnc103 := NB189_191.out
             have hnb104 := NB191_190.out
             have hnc104 := NB190_191.out
             have hcz105_0 : wc.cell? ⟨gb191, 0, none⟩ = some (.int .i64 x192000_1) := (blk_cell BK191.out 0).trans rfl
             have hcz105_1 : wc.cell? ⟨gb191, 1, none⟩ = some (.int .i64 x190000_1) := (blk_cell BK191.out 1).trans rfl
             have hcz105_2 : wc.cell? ⟨gb191, 2, none⟩ = some (.int .i64 x190001_1) := (blk_cell BK191.out 2).trans rfl
             have hcz105_3 : wc.cell? ⟨gb191, 3, none⟩ = some (.slice Ao55 y193.length co55) := (blk_cell BK191.out 3).trans rfl
             have hfz105_0 := blk_frozen BK191.out 0
             have hfz105_1 := blk_frozen BK191.out 1
             have hfz105_2 := blk_frozen BK191.out 2
             have hfz105_3 := blk_frozen BK191.out 3
             go_wp2_with (first | ((with_reducible refine gate_callee (f := 118) rfl ?_); refine goesL_ (some 54) rfl rfl Try.func118 (by kernel_rfl) rfl #[.slice Ao55 y193.length co55, .agg #[.int .i64 ((rd_T35 l0 t197).f5.f0), .int .i64 ((rd_T35 l0 t197).f5.f1)]] rfl (by (try simp only [List.map_toArray, List.map_cons, List.map_nil]); first | done | rfl | (simp only [List.length_drop, List.length_take]; rfl)) ?_; (with_reducible refine (spec_l18Has.calls kj45 _ _ y193 ((rd_T35 l0 t197).f5.f0) ((rd_T35 l0 t197).f5.f1) false _ ?side1 ?side2 A86.out).mono ?_); (case side1 => refine (Kd.R_reads' (e := 33) (base := w.heap.size) (ok := fun k_ => k_ ≠ gb199) (n := y193.length) (c := co55) ?_).2.2; exact (by (with_reducible repeat (first | apply Kd.R_alloc | apply Kd.R_drewN | apply Kd.R_drew)); exact (Kd.R_mono (Kd.R_far (p := ⟨gb191, 0, none⟩) (Kd.R_far (p := ⟨gb191, 2, none⟩) (Kd.R_far (p := ⟨gb191, 1, none⟩) (Kd.R_types HO_192003.out BK191.out (by decide)) (fun _ hk => hk.2) (.int .i64 ((rd_T35 l0 t197).f5.f0))) (fun _ hk => hk.2) (.int .i64 ((rd_T35 l0 t197).f5.f1))) (fun _ hk => hk.2) (.int .i64 4)) (fun _ h_ => h_.1)))); (case side2 => exact (Kd.R_reads' HO_192003.out).2.1); rintro e w106 ⟨rfl, hb⟩; refine ⟨_, rfl, ?_⟩; have n0_ := am (Kd.R_below (by (with_reducible repeat (first | apply Kd.R_alloc | apply Kd.R_drewN | apply Kd.R_drew)); exact (Kd.R_mono (Kd.R_far (p := ⟨gb191, 0, none⟩) (Kd.R_far (p := ⟨gb191, 2, none⟩) (Kd.R_far (p := ⟨gb191, 1, none⟩) (Kd.R_types HO_192003.out BK191.out (by decide)) (fun _ hk => hk.2) (.int .i64 ((rd_T35 l0 t197).f5.f0))) (fun _ hk => hk.2) (.int .i64 ((rd_T35 l0 t197).f5.f1))) (fun _ hk => hk.2) (.int .i64 4)) (fun _ h_ => h_.1))) hb); have n1_ := am (blk_below (g := gb189) (o := .cells #[.int .i64 x190000_1, .int .i64 x190001_1, .int .i64 a1_2] 86 (0, 0)) (by (with_reducible repeat (first | apply bN | apply bD | apply bA)); refine blk_far ?_ NB189_191.out _; (with_reducible repeat (first | apply bN | apply bD | apply bA)); refine blk_far ?_ NB189_191.out _; (with_reducible repeat (first | apply bN | apply bD | apply bA)); refine blk_far ?_ NB189_191.out _; (with_reducible repeat (first | apply bN | apply bD | apply bA)); exact BK189.out) hb); have n2_ := am (blk_below (g := gb190) (o := .cells #[.int .i64 x191000_1, .int .i64 x191001_1, .int .i64 x191002_1, .slice none 0 0] 105 (0, 0)) (by (with_reducible repeat (first | apply bN | apply bD | apply bA)); refine blk_far ?_ NB190_191.out _; (with_reducible repeat (first | apply bN | apply bD | apply bA)); refine blk_far ?_ NB190_191.out _; (with_reducible repeat (first | apply bN | apply bD | apply bA)); refine blk_far ?_ NB190_191.out _; (with_reducible repeat (first | apply bN | apply bD | apply bA)); exact BK190.out) hb); have n3_ := am (blk_below (g := gb191) (o := .cells #[.int .i64 4, .int .i64 ((rd_T35 l0 t197).f5.f0), .int .i64 ((rd_T35 l0 t197).f5.f1), .slice Ao55 y193.length co55] 105 (0, 0)) (by (with_reducible repeat (first | apply bN | apply bD | apply bA)); refine blk_put (cs := #[.int .i64 x192000_1, .int .i64 ((rd_T35 l0 t197).f5.f0), .int .i64 ((rd_T35 l0 t197).f5.f1), .slice Ao55 y193.length co55]) ?_ 0 _ rfl; (with_reducible repeat (first | apply bN | apply bD | apply bA)); refine blk_put (cs := #[.int .i64 x192000_1, .int .i64 ((rd_T35 l0 t197).f5.f0), .int .i64 x190001_1, .slice Ao55 y193.length co55]) ?_ 2 _ rfl; (with_reducible repeat (first | apply bN | apply bD | apply bA)); refine blk_put (cs := #[.int .i64 x192000_1, .int .i64 x190000_1, .int .i64 x190001_1, .slice Ao55 y193.length co55]) ?_ 1 _ rfl; (with_reducible repeat (first | apply bN | apply bD | apply bA)); exact BK191.out) hb); have n4_ := am (blk_below (g := gb199) (o := .cells #[.int .i64 ((rd_T35 l0 t197).f5.f0), .int .i64 ((rd_T35 l0 t197).f5.f1)] 33 (0, 0)) (by (with_reducible repeat (first | apply bN | apply bD | apply bA)); refine blk_far ?_ NB199_191.out _; (with_reducible repeat (first | apply bN | apply bD | apply bA)); refine blk_far ?_ NB199_191.out _; (with_reducible repeat (first | apply bN | apply bD | apply bA)); refine blk_far ?_ NB199_191.out _; (with_reducible repeat (first | apply bN | apply bD | apply bA)); exact BK199.out) hb); have n5_ := am (below_step (by repeat (first | (with_reducible first | exact HB.out | apply eA | apply eN | apply eD | refine eS ?_ GE189.out | refine eS ?_ GE190.out | refine eS ?_ GE191.out | refine eS ?_ GE199.out) | exact HB.out)) hb); clear HO_192003; clear BK189; clear BK190; clear BK191; clear BK199; clear HB; have HO_192003 := n0_; have BK189 := n1_; have BK190 := n2_; have BK191 := n3_; have BK199 := n4_; have HB := n5_; clear n0_ n1_ n2_ n3_ n4_ n5_; (try clear hb); (try clear hb2); (try clear hk); (try clear hi); obtain ⟨hcz107_0, hcz107_1, hcz107_2, hcz107_3, hfz107_0, hfz107_1, hfz107_2, hfz107_3⟩ := blk4 BK191.out; have hnb108 := NB190_189.out; have hnc108 := NB189_190.out; obtain ⟨hcz109_0, hcz109_1, hcz109_2, hcz109_3, hfz109_0, hfz109_1, hfz109_2, hfz109_3⟩ := blk4 BK190.out))
             refine bodyPost_ret (results_cell_row rfl _ _ gb190 105 #[.int .i64 4, .int .i64 ((rd_T35 l0 t197).f5.f0), .int .i64 ((rd_T35 l0 t197).f5.f1), .slice Ao55 y193.length co55] (0, 0) _ rfl (by (with_reducible repeat (first | apply bN | apply bD | apply bA)); refine blk_put (cs := #[.int .i64 4, .int .i64 ((rd_T35 l0 t197).f5.f0), .int .i64 ((rd_T35 l0 t197).f5.f1), .slice none 0 0]) ?_ 3 _ rfl; (with_reducible repeat (first | apply bN | apply bD | apply bA)); refine blk_put (cs := #[.int .i64 4, .int .i64 ((rd_T35 l0 t197).f5.f0), .int .i64 x191002_1, .slice none 0 0]) ?_ 2 _ rfl; (with_reducible repeat (first | apply bN | apply bD | apply bA)); refine blk_put (cs := #[.int .i64 4, .int .i64 x191001_1, .int .i64 x191002_1, .slice none 0 0]) ?_ 1 _ rfl; (with_reducible repeat (first | apply bN | apply bD | apply bA)); refine blk_put (cs := #[.int .i64 x191000_1, .int .i64 x191001_1, .int .i64 x191002_1, .slice none 0 0]) ?_ 0 _ rfl; (with_reducible repeat (first | apply bN | apply bD | apply bA)); exact BK190.out) Try.underlying105 rfl (by kernel_rfl)) rfl ?_
             exact ⟨_, by first | rfl | (simp [errW_none, errW_some] <;> rfl) | (simp [*, errW_none, errW_some] <;> rfl), by (with_reducible repeat (first | apply Kd.R_alloc | apply Kd.R_drewN | apply Kd.R_drew)); exact Kd.R_mono (Kd.R_far (p := ⟨gb190, 3, none⟩) (Kd.R_far (p := ⟨gb190, 2, none⟩) (Kd.R_far (p := ⟨gb190, 1, none⟩) (Kd.R_far (p := ⟨gb190, 0, none⟩) (Kd.R_types HO_192003.out BK190.out (by decide)) (fun _ hk => hk.2) (.int .i64 4)) (fun _ hk => hk.2) (.int .i64 ((rd_T35 l0 t197).f5.f0))) (fun _ hk => hk.2) (.int .i64 ((rd_T35 l0 t197).f5.f1))) (fun _ hk => hk.2) (.slice Ao55 y193.length co55)) (fun _ hk => trivial), by repeat (first | (with_reducible first | exact HB.out | apply eA | apply eN | apply eD | refine eS ?_ GE189.out | refine eS ?_ GE190.out | refine eS ?_ GE191.out | refine eS ?_ GE199.out) | exact HB.out)⟩
           ·replace c85 := Bool.eq_false_iff.mpr c85
            subst c85
            have H1 : (spec_FollowRequest.l0 kj45 l0 ((rd_T35 l0 t197).f5.f0) ((rd_T35 l0 t197).f5.f1) a1_2 x192000_1 x190000_1 x190001_1 y193) = some (r1, r2, r3, r4) := by rw [if_neg (show ¬ (false = true) by decide)] at H; exact H
            clear H
            have H := H1
            clear H1
            have H' := Aside0.mk H
            clear H
            have hnb110 := NB199_189.out
            have hnc110 := NB189_199.out
            have hnb111 := NB199_190.out
            have hnc111 := NB190_199.out
            have hnb112 := NB199_191.out
            have hnc112 := NB191_199.out
            have hcz113_0 : wc.cell? ⟨gb199, 0, none⟩ = some (.int .i64 ((rd_T35 l0 t197).f5.f0)) := (blk_cell BK199.out 0).trans rfl
            have hcz113_1 : wc.cell? ⟨gb199, 1, none⟩ = some (.int .i64 ((rd_T35 l0 t197).f5.f1)) := (blk_cell BK199.out 1).trans rfl
            have hfz113_0 := blk_frozen BK199.out 0
            have hfz113_1 := blk_frozen BK199.out 1
            have hnb114 := NB189_190.out
            have hnc114 := NB190_189.out
            have hnb115 := NB189_191.out
            have hnc115 := NB191_189.out
            have hcz116_0 : wc.cell? ⟨gb189, 0, none⟩ = some (.int .i64 x190000_1) := (blk_cell BK189.out 0).trans rfl
            have hcz116_1 : wc.cell? ⟨gb189, 1, none⟩ = some (.int .i64 x190001_1) := (blk_cell BK189.out 1).trans rfl
            have hcz116_2 : wc.cell? ⟨gb189, 2, none⟩ = some (.int .i64 a1_2) := (blk_cell BK189.out 2).trans rfl
            have hfz116_0 := blk_frozen BK189.out 0
            have hfz116_1 := blk_frozen BK189.out 1
            have hfz116_2 := blk_frozen BK189.out 2
            go_wp2
            go_roundg kj45
            case measure => have := HK1.out; have := HJ45.out; omega
            case rel => exact ⟨(((rd_T35 l0 t197).f5.f0)), (((rd_T35 l0 t197).f5.f1)), (x191000_1), (x191001_1), (x191002_1), (x192000_1), (x190000_1), (x190001_1), (y193), (.slice Ao55 y193.length co55), H', ⟨by have := HK1.out; have := HJ45.out; omega⟩, ⟨by (with_reducible repeat (first | apply Kd.R_alloc | apply Kd.R_drewN | apply Kd.R_drew)); exact Kd.R_mono (Kd.R_far (p := ⟨gb189, 1, none⟩) (Kd.R_far (p := ⟨gb189, 0, none⟩) (Kd.R_types HO_192003.out BK189.out (by decide)) (fun _ hk => hk.2) (.int .i64 ((rd_T35 l0 t197).f5.f0))) (fun _ hk => hk.2) (.int .i64 ((rd_T35 l0 t197).f5.f1))) (fun _ hk => trivial)⟩, ⟨by (with_reducible repeat (first | apply bN | apply bD | apply bA)); refine blk_put (cs := #[.int .i64 ((rd_T35 l0 t197).f5.f0), .int .i64 x190001_1, .int .i64 a1_2]) ?_ 1 _ rfl; (with_reducible repeat (first | apply bN | apply bD | apply bA)); refine blk_put (cs := #[.int .i64 x190000_1, .int .i64 x190001_1, .int .i64 a1_2]) ?_ 0 _ rfl; (with_reducible repeat (first | apply bN | apply bD | apply bA)); exact BK189.out⟩, ⟨by (with_reducible repeat (first | apply bN | apply bD | apply bA)); refine blk_far ?_ NB190_189.out _; (with_reducible repeat (first | apply bN | apply bD | apply bA)); refine blk_far ?_ NB190_189.out _; (with_reducible repeat (first | apply bN | apply bD | apply bA)); exact BK190.out⟩, ⟨by (with_reducible repeat (first | apply bN | apply bD | apply bA)); refine blk_far ?_ NB191_189.out _; (with_reducible repeat (first | apply bN | apply bD | apply bA)); refine blk_far ?_ NB191_189.out _; (with_reducible repeat (first | apply bN | apply bD | apply bA)); exact BK191.out⟩, ⟨by repeat (first | (with_reducible first | exact HB.out | apply eA | apply eN | apply eD | refine eS ?_ GE189.out | refine eS ?_ GE190.out | refine eS ?_ GE191.out | refine eS ?_ GE199.out) | exact HB.out)⟩⟩
        ·rw [if_neg c45] at H
         exact absurd H (by simp)
       ·rw [if_neg c44] at H
        exact absurd H (by simp)
    ·rw [if_neg c11] at H
     exact absurd H (by simp)
   ·replace c10 := Bool.eq_false_iff.mpr c10
    subst c10
    have H1 : (some (x192000_1, x192001_1, x192002_1, x192003_1)) = some (r1, r2, r3, r4) := by rw [if_neg (show ¬ (false = true) by decide)] at H; exact H
    clear H
    have H := H1
    clear H1
    simp only [Option.some.injEq, Prod.mk.injEq] at H
    obtain ⟨rfl, rfl, rfl, rfl⟩ := H
    have hnb117 := NB189_190.out
    have hnc117 := NB190_189.out
    have hnb118 := NB189_191.out
    have hnc118 := NB191_189.out
    have hcz119_0 : wr.cell? ⟨gb189, 0, none⟩ = some (.int .i64 x190000_1) := (blk_cell BK189.out 0).trans rfl
    have hcz119_1 : wr.cell? ⟨gb189, 1, none⟩ = some (.int .i64 x190001_1) := (blk_cell BK189.out 1).trans rfl
    have hcz119_2 : wr.cell? ⟨gb189, 2, none⟩ = some (.int .i64 a1_2) := (blk_cell BK189.out 2).trans rfl
    have hfz119_0 := blk_frozen BK189.out 0
    have hfz119_1 := blk_frozen BK189.out 1
    have hfz119_2 := blk_frozen BK189.out 2
    go_wp2_with (first | ((with_reducible refine gate_callee (f := 80) rfl ?_); refine goesL_ (some 9) rfl rfl Try.func80 (by kernel_rfl) rfl #[.agg #[.int .i64 x190000_1, .int .i64 x190001_1, .int .i64 a1_2]] rfl (by (try simp only [List.map_toArray, List.map_cons, List.map_nil]); first | done | rfl | (simp only [List.length_drop, List.length_take]; rfl)) ?_; (with_reducible refine (spec_IsRequest.calls x190000_1 x190001_1 a1_2 false _ A9.out).mono ?_); rintro e w120 ⟨rfl, hb⟩; refine ⟨_, rfl, ?_⟩; have n0_ := am (Kd.R_below (by (with_reducible repeat (first | apply Kd.R_alloc | apply Kd.R_drewN | apply Kd.R_drew)); exact HO_192003.out) hb); have n1_ := am (blk_below (by (with_reducible repeat (first | apply bN | apply bD | apply bA)); exact BK189.out) hb); have n2_ := am (blk_below (by (with_reducible repeat (first | apply bN | apply bD | apply bA)); exact BK190.out) hb); have n3_ := am (blk_below (by (with_reducible repeat (first | apply bN | apply bD | apply bA)); exact BK191.out) hb); have n4_ := am (below_step (by repeat (first | (with_reducible first | exact HB.out | apply eA | apply eN | apply eD | refine eS ?_ GE189.out | refine eS ?_ GE190.out | refine eS ?_ GE191.out) | exact HB.out)) hb); clear HO_192003; clear BK189; clear BK190; clear BK191; clear HB; have HO_192003 := n0_; have BK189 := n1_; have BK190 := n2_; have BK191 := n3_; have HB := n4_; clear n0_ n1_ n2_ n3_ n4_; (try clear hb); (try clear hb2); (try clear hk); (try clear hi); have hnb121 := NB191_190.out; have hnc121 := NB190_191.out; obtain ⟨hcz122_0, hcz122_1, hcz122_2, hcz122_3, hfz122_0, hfz122_1, hfz122_2, hfz122_3⟩ := blk4 BK191.out; obtain ⟨hcz123_0, hcz123_1, hcz123_2, hcz123_3, hfz123_0, hfz123_1, hfz123_2, hfz123_3⟩ := blk4 BK190.out; obtain ⟨Ao124, co124, eo124⟩ := Kd.R_slice HO_192003.out; subst eo124))
    refine bodyPost_ret (results_cell_row rfl _ _ gb190 105 #[.int .i64 x192000_1, .int .i64 x192001_1, .int .i64 x192002_1, .slice Ao124 x192003_1.length co124] (0, 0) _ rfl (by (with_reducible repeat (first | apply bN | apply bD | apply bA)); refine blk_put (cs := #[.int .i64 x192000_1, .int .i64 x192001_1, .int .i64 x192002_1, .slice none 0 0]) ?_ 3 _ rfl; (with_reducible repeat (first | apply bN | apply bD | apply bA)); refine blk_put (cs := #[.int .i64 x192000_1, .int .i64 x192001_1, .int .i64 x191002_1, .slice none 0 0]) ?_ 2 _ rfl; (with_reducible repeat (first | apply bN | apply bD | apply bA)); refine blk_put (cs := #[.int .i64 x192000_1, .int .i64 x191001_1, .int .i64 x191002_1, .slice none 0 0]) ?_ 1 _ rfl; (with_reducible repeat (first | apply bN | apply bD | apply bA)); refine blk_put (cs := #[.int .i64 x191000_1, .int .i64 x191001_1, .int .i64 x191002_1, .slice none 0 0]) ?_ 0 _ rfl; (with_reducible repeat (first | apply bN | apply bD | apply bA)); exact BK190.out) Try.underlying105 rfl (by kernel_rfl)) rfl ?_
    exact ⟨_, by first | rfl | (simp [errW_none, errW_some] <;> rfl) | (simp [*, errW_none, errW_some] <;> rfl), by (with_reducible repeat (first | apply Kd.R_alloc | apply Kd.R_drewN | apply Kd.R_drew)); exact Kd.R_mono (Kd.R_far (p := ⟨gb190, 3, none⟩) (Kd.R_far (p := ⟨gb190, 2, none⟩) (Kd.R_far (p := ⟨gb190, 1, none⟩) (Kd.R_far (p := ⟨gb190, 0, none⟩) (Kd.R_types HO_192003.out BK190.out (by decide)) (fun _ hk => hk.2) (.int .i64 x192000_1)) (fun _ hk => hk.2) (.int .i64 x192001_1)) (fun _ hk => hk.2) (.int .i64 x192002_1)) (fun _ hk => hk.2) (.slice Ao124 x192003_1.length co124)) (fun _ hk => trivial), by repeat (first | (with_reducible first | exact HB.out | apply eA | apply eN | apply eD | refine eS ?_ GE189.out | refine eS ?_ GE190.out | refine eS ?_ GE191.out) | exact HB.out)⟩

end Go.Proofs.Ytacgichgadoddaa.QF
