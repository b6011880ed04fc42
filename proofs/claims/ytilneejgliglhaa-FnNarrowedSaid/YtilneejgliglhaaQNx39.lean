/- Go functions as Lean functions, each with its walk; printed by a program of this session (a scratch copy of print.py that follows nested field addresses and tells a law for the answer true). -/
import Derived.Test.YtilneejgliglhaaQNx0
import Derived.Test.YtilneejgliglhaaQNx33
import Derived.Test.YtilneejgliglhaaQNxM0
import Derived.Test.YtilneejgliglhaaVInv
namespace Go.Proofs.Ytilneejgliglhaa.QN
open Go.RowKit Go.Proofs.YtilneejgliglhaaW.PrintWords Go.Proofs.YtilneejgliglhaaW.PrintLast Go.Proofs.YtilneejgliglhaaW.PrintMore Go.Proofs.Ytilneejgliglhaa.Short
attribute [local go_sem] max2_int min2_int max_two min_two max_three min_three max_four min_four   -- for this text's walks alone
set_option linter.unusedVariables false
set_option linter.unusedSimpArgs false

theorem eo {a a0 : Act} {b : Nat → Bool} {L : List (Nat × Tmp × Value)} {v : Value} (t : Nat) (ha : a = putSel a0 b L) (h1 : (L.all fun e => !(e.2.1 == t)) = true := by first | exact rfl) (h2 : a0.tmps[t]? = some v := by first | exact rfl) : a.tmps[t]? = some v := by rw [ha]; exact (putSel_off h1).trans h2
theorem eu {a a0 : Act} {b : Nat → Bool} {L : List (Nat × Tmp × Value)} {v : Value} {i : Nat} (t k : Nat) (ha : a = putSel a0 b L) (hb : b i = true) (hk : L[k]? = some (i, t, v) := by first | exact rfl) (h2 : ((L.drop (k + 1)).all fun x => !(x.2.1 == t)) = true := by first | exact rfl) (h3 : Nat.ble (t + 1) a0.tmps.size = true := by first | exact rfl) : a.tmps[t]? = some v := by rw [ha]; exact putSel_on (e := (i, t, v)) k hk h2 hb h3
/-! ### spec_DrawNarrowTime: function 16 -/
def spec_DrawNarrowTime.f (k : Nat) (l0 : List Int) : Option (Int × Int × Int × Int × Int × Int × Bool × Int × Int) := (spec_l1New.f k l0).bind fun bt401 => ((spec_l10Any.f bt401.1 bt401.2.1 bt401.2.2).bind fun bt405 => ((spec_l1Int.f bt401.1 bt405.2.2.2.2.2.2.2.1 bt405.2.2.2.2.2.2.2.2 (([(-1), 0, 3, 8, 20] : List Int))).bind fun bt418 => ((spec_l1Int.f bt401.1 bt418.2.1 bt418.2.2 (([0, 5, 12, 30, 10001] : List Int))).bind fun bt424 => (some (bt405.1, bt405.2.1, bt405.2.2.1, bt405.2.2.2.1, bt405.2.2.2.2.1, bt405.2.2.2.2.2.1, bt405.2.2.2.2.2.2.1, bt418.1, bt424.1)))))
def spec_DrawNarrowTime.T3 : Bool × List (List Nat × List Nat) := (true, [([], []), ([], []), ([], []), ([1, 2], [1, 2]), ([], []), ([], []), ([4, 5, 3], [4, 5]), ([0, 6, 0], [0]), ([3, 7, 0, 1, 2, 3, 7], [3]), ([6, 8, 0, 1, 2, 3, 4, 5, 6, 7, 8], [6])])
def spec_DrawNarrowTime.B3 : List Nat := [0, 0, 0, 6, 0, 0, 62, 127, 255, 511]
theorem spec_DrawNarrowTime.tab3 : rtab .any (opsOf Try.f16 3) = spec_DrawNarrowTime.T3 := by kernel_rfl
theorem spec_DrawNarrowTime.bits3 : waitsOk spec_DrawNarrowTime.T3.2 spec_DrawNarrowTime.B3 = true := by kernel_rfl
set_option maxHeartbeats 8000000 in
set_option maxRecDepth 100000 in
theorem spec_DrawNarrowTime.calls (k : Nat) (A0 : Option Addr) (c0 : Nat) (l0 : List Int) (r1 : Int) (r2 : Int) (r3 : Int) (r4 : Int) (r5 : Int) (r6 : Int) (r7 : Bool) (r8 : Int) (r9 : Int) (w : World) (hr0 : Kd.C (Kd.int .u8) w A0 l0.length l0) (hc0 : l0.length ≤ c0) (h : spec_DrawNarrowTime.f k l0 = some (r1, r2, r3, r4, r5, r6, r7, r8, r9)) :
  Calls Try.prog 16 #[.slice A0 l0.length c0] w fun e w' => e = .returned (.tuple #[.agg #[.int .i64 r1, .int .i64 r2, .int .i64 r3, .int .i64 r4, .int .i64 r5, .int .i64 r6, .bool r7], .int .i64 r8, .int .i64 r9]) ∧ Below w.heap.size w w' := by
 have hu35 := Try.underlying35
 have HR0 := am hr0
 have HC0 := am hc0
 clear hr0 hc0
 have HB := am (Below.refl w.heap.size w)
 unfold spec_DrawNarrowTime.f at h
 have H := h
 clear h
 replace H := bO H
 obtain ⟨⟨t401, t402, t403⟩, A2, H⟩ := H
 try dsimp only at H
 replace H := bO H
 obtain ⟨⟨t405, t406, t407, t408, t409, t410, t411, t412, t413⟩, A3, H⟩ := H
 try dsimp only at H
 obtain ⟨y415, hy415⟩ : ∃ y_ : List Int, y_ = (([(-1), 0, 3, 8, 20] : List Int)) := ⟨_, rfl⟩
 replace H : ((spec_l1Int.f t401 t412 t413 y415).bind fun bt418 => ((spec_l1Int.f t401 bt418.2.1 bt418.2.2 (([0, 5, 12, 30, 10001] : List Int))).bind fun bt424 => (some (t405, t406, t407, t408, t409, t410, t411, bt418.1, bt424.1)))) = some (r1, r2, r3, r4, r5, r6, r7, r8, r9) := by first | (rw [hy415]; with_reducible exact H) | (have H2_ := (Option.bind_some _ _).symm.trans H; rw [hy415]; with_reducible exact H2_) | (have H2_ := (Option.bind_some _ _).symm.trans H; with_reducible exact H2_) | with_reducible exact H | (rw [hy415]; exact H) | exact H
 have Ny415 := am hy415
 clear hy415
 replace H := bO H
 obtain ⟨⟨t418, t419, t420⟩, A4, H⟩ := H
 try dsimp only at H
 obtain ⟨y421, hy421⟩ : ∃ y_ : List Int, y_ = (([0, 5, 12, 30, 10001] : List Int)) := ⟨_, rfl⟩
 replace H : ((spec_l1Int.f t401 t419 t420 y421).bind fun bt424 => (some (t405, t406, t407, t408, t409, t410, t411, t418, bt424.1))) = some (r1, r2, r3, r4, r5, r6, r7, r8, r9) := by first | (rw [hy421]; with_reducible exact H) | (have H2_ := (Option.bind_some _ _).symm.trans H; rw [hy421]; with_reducible exact H2_) | (have H2_ := (Option.bind_some _ _).symm.trans H; with_reducible exact H2_) | with_reducible exact H | (rw [hy421]; exact H) | exact H
 have Ny421 := am hy421
 clear hy421
 replace H := bO H
 obtain ⟨⟨t424, t425, t426⟩, A5, H⟩ := H
 try dsimp only at H
 simp only [Option.some.injEq, Prod.mk.injEq] at H
 obtain ⟨rfl, rfl, rfl, rfl, rfl, rfl, rfl, rfl, rfl⟩ := H
 go_enter Try.func16, Try.ntmps16
 try go_wp2_with (first | ((with_reducible refine gate_dst (N := 2) rfl ?_); refine bE 2 #[.int .i64 0, .int .i64 0, .int .i64 0, .int .i64 0, .int .i64 0, .int .i64 0, .bool false] 35 ?_; intro gb400 hg w6 hbox hb; have q_ := hbx_ (sB HB.out) hg hb; have n0_ := q_.1; have n1_ := am (hbox); have n2_ := q_.2; have n3_ := n2_; clear HB; have HB := n0_; have BK400 := n1_; have GW400 := n2_; have GE400 := n3_; clear n0_ n1_ n2_ n3_ hb hbox hg) | ((with_reducible refine gate_callee (f := 30) rfl ?_); refine gL (some 8) Try.func30 #[.slice A0 l0.length c0] ?_; (with_reducible refine (spec_l1New.calls k _ _ l0 t401 t402 t403 w _ ?side1 ?side2 ?side3 A2.out).mono ?_); (case side1 => exact sG GE400.out HB.out); (case side2 => exact HR0.out); (case side3 => exact HC0.out); rintro e w7 ⟨g404, rfl, hi, hb, hb2⟩; refine ⟨_, rfl, ?_⟩; have n0_ := am (Kb (bB BK400.out) hb2); have n1_ := am (hb); have n2_ := am (hi); have n3_ := am (IsS92.ne_blk hi (Kb (bB BK400.out) hb2) (by decide)); have n4_ := am (Ne.symm (IsS92.ne_blk hi (Kb (bB BK400.out) hb2) (by decide))); clear BK400; clear HB; have BK400 := n0_; have HB := n1_; have HI404 := n2_; have NB404_400 := n3_; have NB400_404 := n4_; clear n0_ n1_ n2_ n3_ n4_; (try clear hb); (try clear hb2); (try clear hi)) | ((with_reducible refine gate_callee (f := 38) rfl ?_); refine gL (some 10) Try.func38 #[.pointer (some ⟨g404, 0, none⟩)] ?_; (with_reducible refine (spec_l10Any.calls g404 t401 t402 t403 t405 t406 t407 t408 t409 t410 t411 t412 t413 w _ ?side1 ?side2 A3.out).mono ?_); (case side1 => exact iT NB404_400.out HI404.out); (case side2 => repeat (first | (with_reducible first | exact HB.out | apply Ky | apply Kj | apply Ks | refine Ki ?_ (IsS92.ge HI404.out) | refine Ki ?_ GE400.out) | exact HB.out)); rintro e w8 ⟨rfl, hi, hb, hk⟩; refine ⟨_, rfl, ?_⟩; replace BK400 := am (Kv hk (bB BK400.out) NB400_404.out (by simp)); replace HB := am (hb); replace HI404 := am (hi); (try clear hb); (try clear hk); (try clear hi)) | ((with_reducible refine gate_dst (N := 6) rfl ?_); refine bE 6 #[.int .i64 0, .int .i64 0, .int .i64 0, .int .i64 0, .int .i64 0, .int .i64 0, .bool false] 35 ?_; intro gb414 hg w9 hbox hb; have n0_ := am (Kb (bB BK400.out) hb); have n1_ := am (IsS92.below (iT NB404_400.out HI404.out) hb); have q_ := hbx_ (by repeat (first | (with_reducible first | exact HB.out | apply Ky | apply Kj | apply Ks | refine Ki ?_ (IsS92.ge HI404.out) | refine Ki ?_ GE400.out) | exact HB.out)) hg hb; have n2_ := q_.1; have n3_ := am (hbox); have n4_ := q_.2; have n5_ := n4_; have n6_ := nL hg (bB BK400.out); have n7_ := nR hg (bB BK400.out); have n8_ := am ((by rw [hg]; exact Nat.ne_of_lt (IsS92.lt (show IsS92 w _ g404 t401 t412 t413 from (iT NB404_400.out HI404.out))) : g404 ≠ gb414)); have n9_ := am ((by rw [hg]; exact Nat.ne_of_gt (IsS92.lt (show IsS92 w _ g404 t401 t412 t413 from (iT NB404_400.out HI404.out))) : gb414 ≠ g404)); clear BK400; clear HI404; clear HB; have BK400 := n0_; have HI404 := n1_; have HB := n2_; have BK414 := n3_; have GW414 := n4_; have GE414 := n5_; have NB400_414 := n6_; have NB414_400 := n7_; have NB404_414 := n8_; have NB414_404 := n9_; clear n0_ n1_ n2_ n3_ n4_ n5_ n6_ n7_ n8_ n9_; clear hb hbox hg; have hnb10 := NB414_400.out; have hnc10 := NB400_414.out; have hnb11 := NB414_404.out; have hnc11 := NB404_414.out; obtain ⟨hcz12_0, hcz12_1, hcz12_2, hcz12_3, hcz12_4, hcz12_5, hcz12_6, hfz12_0, hfz12_1, hfz12_2, hfz12_3, hfz12_4, hfz12_5, hfz12_6⟩ := blk7 BK414.out))
 have n0_ : Aside0 ((((((((w9.setCell ⟨gb414, 0, none⟩ (.int .i64 t405)).setCell ⟨gb414, 1, none⟩ (.int .i64 t406)).setCell ⟨gb414, 2, none⟩ (.int .i64 t407)).setCell ⟨gb414, 3, none⟩ (.int .i64 t408)).setCell ⟨gb414, 4, none⟩ (.int .i64 t409)).setCell ⟨gb414, 5, none⟩ (.int .i64 t410)).setCell ⟨gb414, 6, none⟩ (.bool t411)).heap[gb400]? = some (.cells #[.int .i64 0, .int .i64 0, .int .i64 0, .int .i64 0, .int .i64 0, .int .i64 0, .bool false] 35 (0, 0))) := ⟨by refine bB ?_; refine blk_far ?_ NB400_414.out _; refine bB ?_; refine blk_far ?_ NB400_414.out _; refine bB ?_; refine blk_far ?_ NB400_414.out _; refine bB ?_; refine blk_far ?_ NB400_414.out _; refine bB ?_; refine blk_far ?_ NB400_414.out _; refine bB ?_; refine blk_far ?_ NB400_414.out _; refine bB ?_; refine blk_far ?_ NB400_414.out _; refine bB ?_; exact BK400.out⟩
 have n1_ : Aside0 ((((((((w9.setCell ⟨gb414, 0, none⟩ (.int .i64 t405)).setCell ⟨gb414, 1, none⟩ (.int .i64 t406)).setCell ⟨gb414, 2, none⟩ (.int .i64 t407)).setCell ⟨gb414, 3, none⟩ (.int .i64 t408)).setCell ⟨gb414, 4, none⟩ (.int .i64 t409)).setCell ⟨gb414, 5, none⟩ (.int .i64 t410)).setCell ⟨gb414, 6, none⟩ (.bool t411)).heap[gb414]? = some (.cells #[.int .i64 t405, .int .i64 t406, .int .i64 t407, .int .i64 t408, .int .i64 t409, .int .i64 t410, .bool t411] 35 (0, 0))) := ⟨by refine bB ?_; refine Kg (cs := #[.int .i64 t405, .int .i64 t406, .int .i64 t407, .int .i64 t408, .int .i64 t409, .int .i64 t410, .bool false]) ?_ 6 _ rfl; refine bB ?_; refine Kg (cs := #[.int .i64 t405, .int .i64 t406, .int .i64 t407, .int .i64 t408, .int .i64 t409, .int .i64 0, .bool false]) ?_ 5 _ rfl; refine bB ?_; refine Kg (cs := #[.int .i64 t405, .int .i64 t406, .int .i64 t407, .int .i64 t408, .int .i64 0, .int .i64 0, .bool false]) ?_ 4 _ rfl; refine bB ?_; refine Kg (cs := #[.int .i64 t405, .int .i64 t406, .int .i64 t407, .int .i64 0, .int .i64 0, .int .i64 0, .bool false]) ?_ 3 _ rfl; refine bB ?_; refine Kg (cs := #[.int .i64 t405, .int .i64 t406, .int .i64 0, .int .i64 0, .int .i64 0, .int .i64 0, .bool false]) ?_ 2 _ rfl; refine bB ?_; refine Kg (cs := #[.int .i64 t405, .int .i64 0, .int .i64 0, .int .i64 0, .int .i64 0, .int .i64 0, .bool false]) ?_ 1 _ rfl; refine bB ?_; refine Kg (cs := #[.int .i64 0, .int .i64 0, .int .i64 0, .int .i64 0, .int .i64 0, .int .i64 0, .bool false]) ?_ 0 _ rfl; refine bB ?_; exact BK414.out⟩
 have n2_ : Aside0 (IsS92 w (((((((w9.setCell ⟨gb414, 0, none⟩ (.int .i64 t405)).setCell ⟨gb414, 1, none⟩ (.int .i64 t406)).setCell ⟨gb414, 2, none⟩ (.int .i64 t407)).setCell ⟨gb414, 3, none⟩ (.int .i64 t408)).setCell ⟨gb414, 4, none⟩ (.int .i64 t409)).setCell ⟨gb414, 5, none⟩ (.int .i64 t410)).setCell ⟨gb414, 6, none⟩ (.bool t411)) g404 t401 t412 t413) := ⟨(iU NB404_400.out NB404_414.out HI404.out)⟩
 have n3_ : Aside0 (Below w.heap.size w (((((((w9.setCell ⟨gb414, 0, none⟩ (.int .i64 t405)).setCell ⟨gb414, 1, none⟩ (.int .i64 t406)).setCell ⟨gb414, 2, none⟩ (.int .i64 t407)).setCell ⟨gb414, 3, none⟩ (.int .i64 t408)).setCell ⟨gb414, 4, none⟩ (.int .i64 t409)).setCell ⟨gb414, 5, none⟩ (.int .i64 t410)).setCell ⟨gb414, 6, none⟩ (.bool t411))) := ⟨by repeat (first | (with_reducible first | exact HB.out | apply Ky | apply Kj | apply Ks | refine Ki ?_ (IsS92.ge HI404.out) | refine Ki ?_ GE400.out | refine Ki ?_ GE414.out) | exact HB.out)⟩
 (try clear BK400)
 (try clear BK414)
 (try clear HI404)
 (try clear HB)
 generalize (((((((w9.setCell ⟨gb414, 0, none⟩ (.int .i64 t405)).setCell ⟨gb414, 1, none⟩ (.int .i64 t406)).setCell ⟨gb414, 2, none⟩ (.int .i64 t407)).setCell ⟨gb414, 3, none⟩ (.int .i64 t408)).setCell ⟨gb414, 4, none⟩ (.int .i64 t409)).setCell ⟨gb414, 5, none⟩ (.int .i64 t410)).setCell ⟨gb414, 6, none⟩ (.bool t411)) = w13 at n0_ n1_ n2_ n3_ ⊢
 have BK400 := n0_
 have BK414 := n1_
 have HI404 := n2_
 have HB := n3_
 clear n0_ n1_ n2_ n3_
 replace BK400 := am (blk_drew BK400.out)
 replace BK414 := am (blk_drew BK414.out)
 replace HI404 := am (IsS92.drew HI404.out)
 replace HB := am (Ks HB.out)
 refine start_ (n := 10) (S := fun w' => True) (ds := []) #[z,z,z,z,z,z,z,z,z,z] (by kernel_rfl) rfl rfl trivial (fun hHeld => ?_); refine with_tabW spec_DrawNarrowTime.tab3 spec_DrawNarrowTime.bits3 (fun HT_ HW_ => ?_)
 generalize w13.drew = w14 at BK400 BK414 HI404 HB hHeld ⊢
 refine pu 1 12 #[z,o,z,z,z,z,z,z,z,z] HT_ ?_
 refine pu 4 15 #[z,o,z,z,o,z,z,z,z,z] HT_ ?_
 refine inv_at [0, 2, 3, 5, 6, 7, 8, 9] (fun a0_ b a w' => ∃ (v416 : Value) (v422 : Value), a = putSel a0_ b [(0, 11, .agg #[.int .i64 t405, .int .i64 t406, .int .i64 t407, .int .i64 t408, .int .i64 t409, .int .i64 t410, .bool t411]), (2, 13, v416), (3, 14, .int .i64 t418), (5, 16, v422), (6, 17, .int .i64 t424), (8, 3, .int .i64 t418), (9, 4, .int .i64 t424)] ∧ (b 7 = false → w'.heap[gb400]? = some (.cells #[.int .i64 0, .int .i64 0, .int .i64 0, .int .i64 0, .int .i64 0, .int .i64 0, .bool false] 35 (0, 0))) ∧ (w'.heap[gb414]? = some (.cells #[.int .i64 t405, .int .i64 t406, .int .i64 t407, .int .i64 t408, .int .i64 t409, .int .i64 t410, .bool t411] 35 (0, 0))) ∧ (b 3 = false → IsS92 w w' g404 t401 t412 t413) ∧ (Below w.heap.size w w') ∧ (b 2 = true → Kd.R (Kd.int .i64) 3 w' w.heap.size (fun _ => True) v416 y415) ∧ (b 3 = true → b 6 = false → IsS92 w w' g404 t401 t419 t420) ∧ (b 5 = true → Kd.R (Kd.int .i64) 3 w' w.heap.size (fun _ => True) v422 y421) ∧ (b 6 = true → IsS92 w w' g404 t401 t425 t426) ∧ (b 7 = true → w'.heap[gb400]? = some (.cells #[.int .i64 t405, .int .i64 t406, .int .i64 t407, .int .i64 t408, .int .i64 t409, .int .i64 t410, .bool t411] 35 (0, 0)))) HT_.out HW_.out (by kernel_rfl) (by kernel_rfl) ?_ ?_ ?_
 ·exact ⟨.bool false, .bool false, by simp only [putSel, Bool.false_eq_true, if_false], fun _ => BK400.out, BK414.out, fun _ => HI404.out, HB.out, fun h_ => absurd h_ (by decide), fun h_ => absurd h_ (by decide), fun h_ => absurd h_ (by decide), fun h_ => absurd h_ (by decide), fun h_ => absurd h_ (by decide)⟩
 ·skip
  clear BK400 BK414 HB HI404
  refine steps_cons ?_ ?_
  ·rintro b a w' ⟨v416, v422, ha, Q_BK400, Q_BK414, Q_HI404, Q_HB, Q_HO417, Q_HI404_e3, Q_HO423, Q_HI404_e6, Q_BK400_e7⟩ hb_ hon hoff
   refine ⟨_, rfl, fun K hK => ?_⟩
   have e6 := eo 6 ha
   replace ha := am ha
   have BK400 := am (Q_BK400 (hoff 7 (by kernel_rfl)))
   have BK414 := am Q_BK414
   have HB := am Q_HB
   have hc0_ : w'.cell? ⟨gb414, 0, none⟩ = some (.int .i64 t405) := (Kk BK414.out 0).trans rfl
   have hc1_ : w'.cell? ⟨gb414, 1, none⟩ = some (.int .i64 t406) := (Kk BK414.out 1).trans rfl
   have hc2_ : w'.cell? ⟨gb414, 2, none⟩ = some (.int .i64 t407) := (Kk BK414.out 2).trans rfl
   have hc3_ : w'.cell? ⟨gb414, 3, none⟩ = some (.int .i64 t408) := (Kk BK414.out 3).trans rfl
   have hc4_ : w'.cell? ⟨gb414, 4, none⟩ = some (.int .i64 t409) := (Kk BK414.out 4).trans rfl
   have hc5_ : w'.cell? ⟨gb414, 5, none⟩ = some (.int .i64 t410) := (Kk BK414.out 5).trans rfl
   have hc6_ : w'.cell? ⟨gb414, 6, none⟩ = some (.bool t411) := (Kk BK414.out 6).trans rfl
   refine value_ (w1 := w') (v := .agg #[.int .i64 t405, .int .i64 t406, .int .i64 t407, .int .i64 t408, .int .i64 t409, .int .i64 t410, .bool t411]) (by rfl) rfl ?_ ?_
   ·go_simp
    (try simp only [i64_w])
    try rfl
   refine hK.out _ _ ⟨v416, v422, (by rw [ha.out]; exact putSel_upk 0 hb_ rfl rfl rfl), Q_BK400, Q_BK414, Q_HI404, Q_HB, Q_HO417, Q_HI404_e3, Q_HO423, Q_HI404_e6, fun h0_ => absurd ((hoff 7 (by kernel_rfl)).symm.trans h0_) (by decide)⟩
  refine steps_cons ?_ ?_
  ·rintro b a w' ⟨v416, v422, ha, Q_BK400, Q_BK414, Q_HI404, Q_HB, Q_HO417, Q_HI404_e3, Q_HO423, Q_HI404_e6, Q_BK400_e7⟩ hb_ hon hoff
   refine ⟨_, rfl, fun K hK => ?_⟩
   replace ha := am ha
   have BK400 := am (Q_BK400 (hoff 7 (by kernel_rfl)))
   have BK414 := am Q_BK414
   have HI404 := am (Q_HI404 (hoff 3 (by kernel_rfl)))
   have HB := am Q_HB
   refine Kd.R_lit_step (Kd.int .i64) _ 3 ?hg (N := 13) ?hd (xs := ([(-1), 0, 3, 8, 20] : List Int)) (inner := [.int .i64 (-1), .int .i64 0, .int .i64 3, .int .i64 8, .int .i64 20]) (ok := fun _ => True) (okp := fun _ => True) ?hr ?hp (fun _ hk => hk) trivial (Below.refl _ _) (Nat.le_refl _) (by simp) ?_; (case hd => rfl); (case hg => rfl); (case hr => first | (go_simp; done) | (go_simp; rfl)); (case hp => exact (Reps.one (show Kd.M (Kd.int .i64) _ _ _ (-1) [.int .i64 (-1)] from rfl) (Reps.one (show Kd.M (Kd.int .i64) _ _ _ 0 [.int .i64 0] from rfl) (Reps.one (show Kd.M (Kd.int .i64) _ _ _ 3 [.int .i64 3] from rfl) (Reps.one (show Kd.M (Kd.int .i64) _ _ _ 8 [.int .i64 8] from rfl) (Reps.one (show Kd.M (Kd.int .i64) _ _ _ 20 [.int .i64 20] from rfl) (Reps.none _ _)))))))
   intro v416 w15 ho16 hb hg_ hnew_
   clear hg_ hnew_
   (first | rw [← Ny415.out] at ho16 | (simp only [Int.reduceToNat] at ho16; rw [← Ny415.out] at ho16))
   have n0_ := am (Kd.R_lower ho16 (below_size (by repeat (first | (with_reducible first | exact HB.out | apply Ky | apply Kj | apply Ks | refine Ki ?_ (IsS92.ge HI404.out) | refine Ki ?_ GE400.out | refine Ki ?_ GE414.out) | exact HB.out))))
   have n1_ := am (Kb (bB BK400.out) hb)
   have n2_ := am (IsS92.below (iU NB404_400.out NB404_414.out HI404.out) hb)
   have n3_ := am (Kb (bB BK414.out) hb)
   have n4_ := am (Kh (by repeat (first | (with_reducible first | exact HB.out | apply Ky | apply Kj | apply Ks | refine Ki ?_ (IsS92.ge HI404.out) | refine Ki ?_ GE400.out | refine Ki ?_ GE414.out) | exact HB.out)) hb)
   have z_HO423 := fun (h0_ : b 5 = true) => (show Kd.R (Kd.int .i64) 3 w15 w.heap.size (fun _ => True) v422 y421 from by first | exact (Kd.R_elder' (by (with_reducible repeat (first | apply Kd.R_alloc | apply Kd.R_drewN | apply Kd.R_drew)); exact (Q_HO423 h0_)) (Kd.R_base ho16) hb) | exact Kt (Kd.R_elder' (by (with_reducible repeat (first | apply Kd.R_alloc | apply Kd.R_drewN | apply Kd.R_drew)); exact (Q_HO423 h0_)) (Kd.R_base ho16) hb) (fun _ h_ => by first | trivial | exact h_ | exact h_.1))
   clear BK400
   clear HI404
   clear BK414
   clear HB
   have HO417 := n0_
   have BK400 := n1_
   have HI404 := n2_
   have BK414 := n3_
   have HB := n4_
   clear n0_ n1_ n2_ n3_ n4_
   clear hb ho16
   refine hK.out _ _ ⟨v416, v422, (by rw [ha.out]; exact putSel_upk 1 hb_ rfl rfl rfl), fun _ => (bB BK400.out), (bB BK414.out), fun _ => (iU NB404_400.out NB404_414.out HI404.out), (by repeat (first | (with_reducible first | exact HB.out | apply Ky | apply Kj | apply Ks | refine Ki ?_ (IsS92.ge HI404.out) | refine Ki ?_ GE400.out | refine Ki ?_ GE414.out) | exact HB.out)), fun _ => (rB HO417.out), fun h0_ _ => absurd ((hoff 3 (by kernel_rfl)).symm.trans h0_) (by decide), z_HO423, fun h0_ => absurd ((hoff 6 (by kernel_rfl)).symm.trans h0_) (by decide), fun h0_ => absurd ((hoff 7 (by kernel_rfl)).symm.trans h0_) (by decide)⟩
  refine steps_cons ?_ ?_
  ·rintro b a w' ⟨v416, v422, ha, Q_BK400, Q_BK414, Q_HI404, Q_HB, Q_HO417, Q_HI404_e3, Q_HO423, Q_HI404_e6, Q_BK400_e7⟩ hb_ hon hoff
   refine ⟨_, rfl, fun K hK => ?_⟩
   have e12 := eo 12 ha
   have e13 := eu 13 1 ha (hon 2 (by kernel_rfl))
   replace ha := am ha
   have BK400 := am (Q_BK400 (hoff 7 (by kernel_rfl)))
   have BK414 := am Q_BK414
   have HI404 := am (Q_HI404 hb_)
   have HB := am Q_HB
   have HO417 := am (Q_HO417 (hon 2 (by kernel_rfl)))
   obtain ⟨Ao18, co18, eo18⟩ := Kd.R_slice HO417.out
   (first | subst eo18 | (injection eo18 with f1_ f2_ f3_; have f4_ := f1_.symm; have f5_ := f3_.symm; clear f1_ f2_ f3_; subst f4_; subst f5_))
   refine goes_ Try.func46 (by kernel_rfl) rfl #[.pointer (some ⟨g404, 0, none⟩), .slice Ao18 y415.length co18] (by rfl) rfl rfl (by first | (simp only [List.map_toArray, List.map_cons, List.map_nil, Act.eval, Array.getD_eq_getD_getElem?, Option.getD_some, e12, e13]; done) | (simp only [List.map_toArray, List.map_cons, List.map_nil, Act.eval, Array.getD_eq_getD_getElem?, Option.getD_some, e12, e13]; rfl)) ?_
   with_reducible refine (spec_l1Int.calls g404 t401 t412 t413 _ _ y415 t418 t419 t420 w _ ?side1 ?side2 ?side3 ?side4 ?side5 A4.out).mono ?_
   (case side1 => exact iU NB404_400.out NB404_414.out HI404.out)
   (case side2 => repeat (first | (with_reducible first | exact HB.out | apply Ky | apply Kj | apply Ks | refine Ki ?_ (IsS92.ge HI404.out) | refine Ki ?_ GE400.out | refine Ki ?_ GE414.out) | exact HB.out))
   (case side3 => exact cB ((Kq HO417.out).2.2))
   (case side4 => exact (Kq HO417.out).2.1)
   (case side5 => exact far_slice (IsS92.own_ne HI404.out HO417.out (by decide)))
   rintro e w19 ⟨rfl, hi, hb, hk⟩
   refine ⟨_, rfl, ?_⟩
   have n0_ := am (Kv hk (bB BK400.out) NB400_404.out (by simp))
   have n1_ := am (Kv hk (bB BK414.out) NB414_404.out (by simp))
   have n2_ := am (Kt (Kd.R_keep (IsS92.apart (show IsS92 w _ g404 t401 t412 t413 from (iU NB404_400.out NB404_414.out HI404.out)) (rB HO417.out) (by decide)) hk (fun _ h => h.2)) (fun _ h => h.1))
   have n3_ := am (hb)
   have n4_ := am (hi)
   have z_HO423 := fun (h0_ : b 5 = true) => (show Kd.R (Kd.int .i64) 3 w19 w.heap.size (fun _ => True) v422 y421 from by first | exact (Kt (Kd.R_keep (IsS92.apart (show IsS92 w _ g404 t401 t412 t413 from (iU NB404_400.out NB404_414.out HI404.out)) (by (with_reducible repeat (first | apply Kd.R_alloc | apply Kd.R_drewN | apply Kd.R_drew)); exact (Q_HO423 h0_)) (by decide)) hk (fun _ h => h.2)) (fun _ h => h.1)) | exact Kt (Kt (Kd.R_keep (IsS92.apart (show IsS92 w _ g404 t401 t412 t413 from (iU NB404_400.out NB404_414.out HI404.out)) (by (with_reducible repeat (first | apply Kd.R_alloc | apply Kd.R_drewN | apply Kd.R_drew)); exact (Q_HO423 h0_)) (by decide)) hk (fun _ h => h.2)) (fun _ h => h.1)) (fun _ h_ => by first | trivial | exact h_ | exact h_.1))
   clear BK400
   clear BK414
   clear HO417
   clear HB
   clear HI404
   have BK400 := n0_
   have BK414 := n1_
   have HO417 := n2_
   have HB := n3_
   have HI404 := n4_
   clear n0_ n1_ n2_ n3_ n4_
   (try clear hb)
   (try clear hb2)
   (try clear hk)
   (try clear hi)
   refine hK.out _ _ ⟨.slice Ao18 y415.length co18, v422, (by rw [ha.out]; exact putSel_upk 2 hb_ rfl rfl rfl), fun _ => (bB BK400.out), (bB BK414.out), fun h0_ => absurd ((up_self b 3).symm.trans h0_) (by decide), (by repeat (first | (with_reducible first | exact HB.out | apply Ky | apply Kj | apply Ks | refine Ki ?_ (IsS92.ge HI404.out) | refine Ki ?_ GE400.out | refine Ki ?_ GE414.out) | exact HB.out)), fun _ => (rB HO417.out), fun _ _ => (iU NB404_400.out NB404_414.out HI404.out), z_HO423, fun h0_ => absurd ((hoff 6 (by kernel_rfl)).symm.trans h0_) (by decide), fun h0_ => absurd ((hoff 7 (by kernel_rfl)).symm.trans h0_) (by decide)⟩
  refine steps_cons ?_ ?_
  ·rintro b a w' ⟨v416, v422, ha, Q_BK400, Q_BK414, Q_HI404, Q_HB, Q_HO417, Q_HI404_e3, Q_HO423, Q_HI404_e6, Q_BK400_e7⟩ hb_ hon hoff
   refine ⟨_, rfl, fun K hK => ?_⟩
   replace ha := am ha
   have BK400 := am (Q_BK400 (hoff 7 (by kernel_rfl)))
   have BK414 := am Q_BK414
   have HB := am Q_HB
   refine Kd.R_lit_step (Kd.int .i64) _ 3 ?hg (N := 16) ?hd (xs := ([0, 5, 12, 30, 10001] : List Int)) (inner := [.int .i64 0, .int .i64 5, .int .i64 12, .int .i64 30, .int .i64 10001]) (ok := fun _ => True) (okp := fun _ => True) ?hr ?hp (fun _ hk => hk) trivial (Below.refl _ _) (Nat.le_refl _) (by simp) ?_; (case hd => rfl); (case hg => rfl); (case hr => first | (go_simp; done) | (go_simp; rfl)); (case hp => exact (Reps.one (show Kd.M (Kd.int .i64) _ _ _ 0 [.int .i64 0] from rfl) (Reps.one (show Kd.M (Kd.int .i64) _ _ _ 5 [.int .i64 5] from rfl) (Reps.one (show Kd.M (Kd.int .i64) _ _ _ 12 [.int .i64 12] from rfl) (Reps.one (show Kd.M (Kd.int .i64) _ _ _ 30 [.int .i64 30] from rfl) (Reps.one (show Kd.M (Kd.int .i64) _ _ _ 10001 [.int .i64 10001] from rfl) (Reps.none _ _)))))))
   intro v422 w15 ho16 hb hg_ hnew_
   clear hg_ hnew_
   (first | rw [← Ny421.out] at ho16 | (simp only [Int.reduceToNat] at ho16; rw [← Ny421.out] at ho16))
   have n0_ := am (Kd.R_lower ho16 (below_size (sB HB.out)))
   have n1_ := am (Kb (bB BK400.out) hb)
   have n3_ := am (Kb (bB BK414.out) hb)
   have n4_ := am (Kh (sB HB.out) hb)
   have z_HI404 := fun (h0_ : b 3 = false) => (show IsS92 w w15 g404 t401 t412 t413 from by first | exact (IsS92.below (by repeat (first | (with_reducible first | exact (Q_HI404 h0_) | apply IsS92.alloc | apply IsS92.drewN | apply IsS92.drew | apply IsS92.set_1 | apply IsS92.set_2 | refine IsS92.far ?_ NB404_400.out _ | refine IsS92.far ?_ NB404_414.out _) | exact (Q_HI404 h0_))) hb))
   have z_HO417 := fun (h0_ : b 2 = true) => (show Kd.R (Kd.int .i64) 3 w15 w.heap.size (fun _ => True) v416 y415 from by first | exact (Kd.R_elder' (by (with_reducible repeat (first | apply Kd.R_alloc | apply Kd.R_drewN | apply Kd.R_drew)); exact (Q_HO417 h0_)) (Kd.R_base ho16) hb) | exact Kt (Kd.R_elder' (by (with_reducible repeat (first | apply Kd.R_alloc | apply Kd.R_drewN | apply Kd.R_drew)); exact (Q_HO417 h0_)) (Kd.R_base ho16) hb) (fun _ h_ => by first | trivial | exact h_ | exact h_.1))
   have z_HI404_e3 := fun (h0_ : b 3 = true) (h1_ : b 6 = false) => (show IsS92 w w15 g404 t401 t419 t420 from by first | exact (IsS92.below (by repeat (first | (with_reducible first | exact (Q_HI404_e3 h0_ h1_) | apply IsS92.alloc | apply IsS92.drewN | apply IsS92.drew | apply IsS92.set_1 | apply IsS92.set_2 | refine IsS92.far ?_ NB404_400.out _ | refine IsS92.far ?_ NB404_414.out _) | exact (Q_HI404_e3 h0_ h1_))) hb))
   clear BK400
   clear BK414
   clear HB
   have HO423 := n0_
   have BK400 := n1_
   have BK414 := n3_
   have HB := n4_
   clear n0_ n1_ n3_ n4_
   clear hb ho16
   refine hK.out _ _ ⟨v416, v422, (by rw [ha.out]; exact putSel_upk 3 hb_ rfl rfl rfl), fun _ => (bB BK400.out), (bB BK414.out), z_HI404, (sB HB.out), z_HO417, z_HI404_e3, fun _ => (rB HO423.out), fun h0_ => absurd ((hoff 6 (by kernel_rfl)).symm.trans h0_) (by decide), fun h0_ => absurd ((hoff 7 (by kernel_rfl)).symm.trans h0_) (by decide)⟩
  refine steps_cons ?_ ?_
  ·rintro b a w' ⟨v416, v422, ha, Q_BK400, Q_BK414, Q_HI404, Q_HB, Q_HO417, Q_HI404_e3, Q_HO423, Q_HI404_e6, Q_BK400_e7⟩ hb_ hon hoff
   refine ⟨_, rfl, fun K hK => ?_⟩
   have e15 := eo 15 ha
   have e16 := eu 16 3 ha (hon 5 (by kernel_rfl))
   replace ha := am ha
   have BK400 := am (Q_BK400 (hoff 7 (by kernel_rfl)))
   have BK414 := am Q_BK414
   have HB := am Q_HB
   have HO417 := am (Q_HO417 (hon 2 (by kernel_rfl)))
   have HI404 := am (Q_HI404_e3 (hon 3 (by kernel_rfl)) hb_)
   have HO423 := am (Q_HO423 (hon 5 (by kernel_rfl)))
   obtain ⟨Ao22, co22, eo22⟩ := Kd.R_slice HO423.out
   (first | subst eo22 | (injection eo22 with f1_ f2_ f3_; have f4_ := f1_.symm; have f5_ := f3_.symm; clear f1_ f2_ f3_; subst f4_; subst f5_))
   refine goes_ Try.func46 (by kernel_rfl) rfl #[.pointer (some ⟨g404, 0, none⟩), .slice Ao22 y421.length co22] (by rfl) rfl rfl (by first | (simp only [List.map_toArray, List.map_cons, List.map_nil, Act.eval, Array.getD_eq_getD_getElem?, Option.getD_some, e15, e16]; done) | (simp only [List.map_toArray, List.map_cons, List.map_nil, Act.eval, Array.getD_eq_getD_getElem?, Option.getD_some, e15, e16]; rfl)) ?_
   with_reducible refine (spec_l1Int.calls g404 t401 t419 t420 _ _ y421 t424 t425 t426 w _ ?side1 ?side2 ?side3 ?side4 ?side5 A5.out).mono ?_
   (case side1 => exact iU NB404_400.out NB404_414.out HI404.out)
   (case side2 => repeat (first | (with_reducible first | exact HB.out | apply Ky | apply Kj | apply Ks | refine Ki ?_ (IsS92.ge HI404.out) | refine Ki ?_ GE400.out | refine Ki ?_ GE414.out) | exact HB.out))
   (case side3 => exact cB ((Kq HO423.out).2.2))
   (case side4 => exact (Kq HO423.out).2.1)
   (case side5 => exact far_slice (IsS92.own_ne HI404.out HO423.out (by decide)))
   rintro e w23 ⟨rfl, hi, hb, hk⟩
   refine ⟨_, rfl, ?_⟩
   replace BK400 := am (Kv hk (bB BK400.out) NB400_404.out (by simp))
   replace BK414 := am (Kv hk (bB BK414.out) NB414_404.out (by simp))
   replace HO417 := am (Kt (Kd.R_keep (IsS92.apart (show IsS92 w _ g404 t401 t419 t420 from (iU NB404_400.out NB404_414.out HI404.out)) (rB HO417.out) (by decide)) hk (fun _ h => h.2)) (fun _ h => h.1))
   replace HO423 := am (Kt (Kd.R_keep (IsS92.apart (show IsS92 w _ g404 t401 t419 t420 from (iU NB404_400.out NB404_414.out HI404.out)) (rB HO423.out) (by decide)) hk (fun _ h => h.2)) (fun _ h => h.1))
   replace HB := am (hb)
   replace HI404 := am (hi)
   (try clear hb)
   (try clear hb2)
   (try clear hk)
   (try clear hi)
   refine hK.out _ _ ⟨v416, .slice Ao22 y421.length co22, (by rw [ha.out]; exact putSel_upk 4 hb_ rfl rfl rfl), fun _ => (bB BK400.out), (bB BK414.out), fun h0_ => absurd ((hon 3 (by kernel_rfl)).symm.trans h0_) (by decide), (by repeat (first | (with_reducible first | exact HB.out | apply Ky | apply Kj | apply Ks | refine Ki ?_ (IsS92.ge HI404.out) | refine Ki ?_ GE400.out | refine Ki ?_ GE414.out) | exact HB.out)), fun _ => (rB HO417.out), fun _ h1_ => absurd ((up_self b 6).symm.trans h1_) (by decide), fun _ => (rB HO423.out), fun _ => (iU NB404_400.out NB404_414.out HI404.out), fun h0_ => absurd ((hoff 7 (by kernel_rfl)).symm.trans h0_) (by decide)⟩
  refine steps_cons ?_ ?_
  ·rintro b a w' ⟨v416, v422, ha, Q_BK400, Q_BK414, Q_HI404, Q_HB, Q_HO417, Q_HI404_e3, Q_HO423, Q_HI404_e6, Q_BK400_e7⟩ hb_ hon hoff
   refine ⟨_, rfl, fun K hK => ?_⟩
   have e2 := eo 2 ha
   have e11 := eu 11 0 ha (hon 0 (by kernel_rfl))
   replace ha := am ha
   have BK400 := am (Q_BK400 hb_)
   have BK414 := am Q_BK414
   have HB := am Q_HB
   have HO417 := am (Q_HO417 (hon 2 (by kernel_rfl)))
   have HO423 := am (Q_HO423 (hon 5 (by kernel_rfl)))
   have HI404 := am (Q_HI404_e6 (hon 6 (by kernel_rfl)))
   have hs24 : w'.cell? ⟨gb400, 0, none⟩ = some (.int .i64 0) := (Kk BK400.out 0).trans rfl
   have hfs24 := Kr BK400.out 0
   have hns24_1 := NB414_400.out
   have hms24_1 := NB400_414.out
   have hs25 : w'.cell? ⟨gb400, 1, none⟩ = some (.int .i64 0) := (Kk BK400.out 1).trans rfl
   have hfs25 := Kr BK400.out 1
   have hns25_1 := NB414_400.out
   have hms25_1 := NB400_414.out
   have hs26 : w'.cell? ⟨gb400, 2, none⟩ = some (.int .i64 0) := (Kk BK400.out 2).trans rfl
   have hfs26 := Kr BK400.out 2
   have hns26_1 := NB414_400.out
   have hms26_1 := NB400_414.out
   have hs27 : w'.cell? ⟨gb400, 3, none⟩ = some (.int .i64 0) := (Kk BK400.out 3).trans rfl
   have hfs27 := Kr BK400.out 3
   have hns27_1 := NB414_400.out
   have hms27_1 := NB400_414.out
   have hs28 : w'.cell? ⟨gb400, 4, none⟩ = some (.int .i64 0) := (Kk BK400.out 4).trans rfl
   have hfs28 := Kr BK400.out 4
   have hns28_1 := NB414_400.out
   have hms28_1 := NB400_414.out
   have hs29 : w'.cell? ⟨gb400, 5, none⟩ = some (.int .i64 0) := (Kk BK400.out 5).trans rfl
   have hfs29 := Kr BK400.out 5
   have hns29_1 := NB414_400.out
   have hms29_1 := NB400_414.out
   have hs30 : w'.cell? ⟨gb400, 6, none⟩ = some (.bool false) := (Kk BK400.out 6).trans rfl
   have hfs30 := Kr BK400.out 6
   have hns30_1 := NB414_400.out
   have hms30_1 := NB400_414.out
   refine skip_ (w1 := ?_) (by rfl) rfl ?_ ?_
   rotate_left
   ·go_simp
    rfl
   refine hK.out _ _ ⟨v416, v422, (by rw [ha.out]; exact putSel_none (v := undef) rfl), fun h0_ => absurd ((up_self b 7).symm.trans h0_) (by decide), (fB NB414_400.out BK414.out), fun h0_ => absurd ((hon 3 (by kernel_rfl)).symm.trans h0_) (by decide), (by repeat (first | (with_reducible first | exact HB.out | apply Ky | apply Kj | apply Ks | refine Ki ?_ (IsS92.ge HI404.out) | refine Ki ?_ GE400.out | refine Ki ?_ GE414.out) | exact HB.out)), fun _ => (by (with_reducible repeat (first | apply Kd.R_alloc | apply Kd.R_drewN | apply Kd.R_drew)); exact Kt (Kd.R_far (p := ⟨gb400, 6, none⟩) (Kd.R_far (p := ⟨gb400, 5, none⟩) (Kd.R_far (p := ⟨gb400, 4, none⟩) (Kd.R_far (p := ⟨gb400, 3, none⟩) (Kd.R_far (p := ⟨gb400, 2, none⟩) (Kd.R_far (p := ⟨gb400, 1, none⟩) (Kd.R_far (p := ⟨gb400, 0, none⟩) (Kd.R_types HO417.out BK400.out (by decide)) (fun _ hk => hk.2) (.int .i64 t405)) (fun _ hk => hk.2) (.int .i64 t406)) (fun _ hk => hk.2) (.int .i64 t407)) (fun _ hk => hk.2) (.int .i64 t408)) (fun _ hk => hk.2) (.int .i64 t409)) (fun _ hk => hk.2) (.int .i64 t410)) (fun _ hk => hk.2) (.bool t411)) (fun _ hk => hk.1)), fun _ h1_ => absurd ((hon 6 (by kernel_rfl)).symm.trans h1_) (by decide), fun _ => (by (with_reducible repeat (first | apply Kd.R_alloc | apply Kd.R_drewN | apply Kd.R_drew)); exact Kt (Kd.R_far (p := ⟨gb400, 6, none⟩) (Kd.R_far (p := ⟨gb400, 5, none⟩) (Kd.R_far (p := ⟨gb400, 4, none⟩) (Kd.R_far (p := ⟨gb400, 3, none⟩) (Kd.R_far (p := ⟨gb400, 2, none⟩) (Kd.R_far (p := ⟨gb400, 1, none⟩) (Kd.R_far (p := ⟨gb400, 0, none⟩) (Kd.R_types HO423.out BK400.out (by decide)) (fun _ hk => hk.2) (.int .i64 t405)) (fun _ hk => hk.2) (.int .i64 t406)) (fun _ hk => hk.2) (.int .i64 t407)) (fun _ hk => hk.2) (.int .i64 t408)) (fun _ hk => hk.2) (.int .i64 t409)) (fun _ hk => hk.2) (.int .i64 t410)) (fun _ hk => hk.2) (.bool t411)) (fun _ hk => hk.1)), fun _ => (iU NB404_400.out NB404_414.out HI404.out), fun _ => (by refine bB ?_; refine Kg (cs := #[.int .i64 t405, .int .i64 t406, .int .i64 t407, .int .i64 t408, .int .i64 t409, .int .i64 t410, .bool false]) ?_ 6 _ rfl; refine bB ?_; refine Kg (cs := #[.int .i64 t405, .int .i64 t406, .int .i64 t407, .int .i64 t408, .int .i64 t409, .int .i64 0, .bool false]) ?_ 5 _ rfl; refine bB ?_; refine Kg (cs := #[.int .i64 t405, .int .i64 t406, .int .i64 t407, .int .i64 t408, .int .i64 0, .int .i64 0, .bool false]) ?_ 4 _ rfl; refine bB ?_; refine Kg (cs := #[.int .i64 t405, .int .i64 t406, .int .i64 t407, .int .i64 0, .int .i64 0, .int .i64 0, .bool false]) ?_ 3 _ rfl; refine bB ?_; refine Kg (cs := #[.int .i64 t405, .int .i64 t406, .int .i64 0, .int .i64 0, .int .i64 0, .int .i64 0, .bool false]) ?_ 2 _ rfl; refine bB ?_; refine Kg (cs := #[.int .i64 t405, .int .i64 0, .int .i64 0, .int .i64 0, .int .i64 0, .int .i64 0, .bool false]) ?_ 1 _ rfl; refine bB ?_; refine Kg (cs := #[.int .i64 0, .int .i64 0, .int .i64 0, .int .i64 0, .int .i64 0, .int .i64 0, .bool false]) ?_ 0 _ rfl; refine bB ?_; exact BK400.out)⟩
  refine steps_cons ?_ ?_
  ·rintro b a w' ⟨v416, v422, ha, Q_BK400, Q_BK414, Q_HI404, Q_HB, Q_HO417, Q_HI404_e3, Q_HO423, Q_HI404_e6, Q_BK400_e7⟩ hb_ hon hoff
   refine ⟨_, rfl, fun K hK => ?_⟩
   have e14 := eu 14 2 ha (hon 3 (by kernel_rfl))
   replace ha := am ha
   have BK414 := am Q_BK414
   have HB := am Q_HB
   have HO417 := am (Q_HO417 (hon 2 (by kernel_rfl)))
   have HO423 := am (Q_HO423 (hon 5 (by kernel_rfl)))
   have HI404 := am (Q_HI404_e6 (hon 6 (by kernel_rfl)))
   have BK400 := am (Q_BK400_e7 (hon 7 (by kernel_rfl)))
   refine value_ (w1 := w') (v := .int .i64 t418) (by rfl) rfl ?_ ?_
   ·go_simp
    (try simp only [i64_w])
    try rfl
   refine hK.out _ _ ⟨v416, v422, (by rw [ha.out]; exact putSel_upk 5 hb_ rfl rfl rfl), fun h0_ => absurd ((hon 7 (by kernel_rfl)).symm.trans h0_) (by decide), Q_BK414, fun h0_ => absurd ((hon 3 (by kernel_rfl)).symm.trans h0_) (by decide), Q_HB, Q_HO417, fun _ h1_ => absurd ((hon 6 (by kernel_rfl)).symm.trans h1_) (by decide), Q_HO423, Q_HI404_e6, Q_BK400_e7⟩
  refine steps_cons ?_ ?_
  ·rintro b a w' ⟨v416, v422, ha, Q_BK400, Q_BK414, Q_HI404, Q_HB, Q_HO417, Q_HI404_e3, Q_HO423, Q_HI404_e6, Q_BK400_e7⟩ hb_ hon hoff
   refine ⟨_, rfl, fun K hK => ?_⟩
   have e17 := eu 17 4 ha (hon 6 (by kernel_rfl))
   replace ha := am ha
   have BK414 := am Q_BK414
   have HB := am Q_HB
   have HO417 := am (Q_HO417 (hon 2 (by kernel_rfl)))
   have HO423 := am (Q_HO423 (hon 5 (by kernel_rfl)))
   have HI404 := am (Q_HI404_e6 (hon 6 (by kernel_rfl)))
   have BK400 := am (Q_BK400_e7 (hon 7 (by kernel_rfl)))
   refine value_ (w1 := w') (v := .int .i64 t424) (by rfl) rfl ?_ ?_
   ·go_simp
    (try simp only [i64_w])
    try rfl
   refine hK.out _ _ ⟨v416, v422, (by rw [ha.out]; exact putSel_upk 6 hb_ rfl rfl rfl), fun h0_ => absurd ((hon 7 (by kernel_rfl)).symm.trans h0_) (by decide), Q_BK414, fun h0_ => absurd ((hon 3 (by kernel_rfl)).symm.trans h0_) (by decide), Q_HB, Q_HO417, fun _ h1_ => absurd ((hon 6 (by kernel_rfl)).symm.trans h1_) (by decide), Q_HO423, Q_HI404_e6, Q_BK400_e7⟩
  exact steps_nil
 rintro b a w30 hall ⟨v416, v422, ha, Q_BK400, Q_BK414, Q_HI404, Q_HB, Q_HO417, Q_HI404_e3, Q_HO423, Q_HI404_e6, Q_BK400_e7⟩
 clear BK400 BK414 HB HI404
 have hb0_ := hall 0 (by kernel_rfl)
 have hb2_ := hall 2 (by kernel_rfl)
 have hb3_ := hall 3 (by kernel_rfl)
 have hb5_ := hall 5 (by kernel_rfl)
 have hb6_ := hall 6 (by kernel_rfl)
 have hb7_ := hall 7 (by kernel_rfl)
 have hb8_ := hall 8 (by kernel_rfl)
 have hb9_ := hall 9 (by kernel_rfl)
 subst ha
 simp only [putSel, hb0_, hb2_, hb3_, hb5_, hb6_, hb7_, hb8_, hb9_, if_true, Act.put, List.setIfInBounds_toArray, List.set_cons_zero, List.set_cons_succ]
 clear Q_BK400
 have BK414 := am Q_BK414
 clear Q_BK414
 clear Q_HI404
 have HB := am Q_HB
 clear Q_HB
 have HO417 := am (Q_HO417 hb2_)
 clear Q_HO417
 clear Q_HI404_e3
 have HO423 := am (Q_HO423 hb5_)
 clear Q_HO423
 have HI404 := am (Q_HI404_e6 hb6_)
 clear Q_HI404_e6
 have BK400 := am (Q_BK400_e7 hb7_)
 clear Q_BK400_e7
 clear hall hb0_ hb2_ hb3_ hb5_ hb6_ hb7_ hb8_ hb9_
 try go_wp2
 refine bodyPost_ret (results_ctt rfl _ _ gb400 35 #[.int .i64 t405, .int .i64 t406, .int .i64 t407, .int .i64 t408, .int .i64 t409, .int .i64 t410, .bool t411] (0, 0) _ rfl (bB BK400.out) Try.underlying35 rfl (by kernel_rfl)) rfl ?_
 exact ⟨by first | rfl | (simp [errW_none, errW_some] <;> rfl) | (simp [*, errW_none, errW_some] <;> rfl), by repeat (first | (with_reducible first | exact HB.out | apply Ky | apply Kj | apply Ks | refine Ki ?_ (IsS92.ge HI404.out) | refine Ki ?_ GE400.out | refine Ki ?_ GE414.out) | exact HB.out)⟩

end Go.Proofs.Ytilneejgliglhaa.QN
