/- Go functions as Lean functions, each with its walk; printed by a program of this session (a scratch copy of print.py that follows nested field addresses and tells a law for the answer true). -/
import Derived.Test.YtilneejgliglhaaQNx0
import Derived.Test.YtilneejgliglhaaQNx32
import Derived.Test.YtilneejgliglhaaQNx33
import Derived.Test.YtilneejgliglhaaQNxM0
namespace Go.Proofs.Ytilneejgliglhaa.QN
open Go.RowKit Go.Proofs.YtilneejgliglhaaW.PrintWords Go.Proofs.YtilneejgliglhaaW.PrintLast Go.Proofs.YtilneejgliglhaaW.PrintMore Go.Proofs.Ytilneejgliglhaa.Short
attribute [local go_sem] max2_int min2_int max_two min_two max_three min_three max_four min_four   -- for this text's walks alone
set_option linter.unusedVariables false
set_option linter.unusedSimpArgs false

/-! ### spec_DrawNarrowGrant: function 11 -/
def spec_DrawNarrowGrant.f (k : Nat) (l0 : List Int) : Option (Int × Int × Int × Int × Int × Int × Bool × Int × Int) := (spec_l1New.f k l0).bind fun bt356 => ((spec_l10Any.f bt356.1 bt356.2.1 bt356.2.2).bind fun bt360 => ((spec_l9Any.f bt356.1 bt360.2.2.2.2.2.2.2.1 bt360.2.2.2.2.2.2.2.2).bind fun bt370 => (some (bt360.1, bt360.2.1, bt360.2.2.1, bt360.2.2.2.1, bt360.2.2.2.2.1, bt360.2.2.2.2.2.1, bt360.2.2.2.2.2.2.1, bt370.1, bt370.2.1))))
set_option maxHeartbeats 8000000 in
set_option maxRecDepth 100000 in
theorem spec_DrawNarrowGrant.calls (k : Nat) (A0 : Option Addr) (c0 : Nat) (l0 : List Int) (r1 : Int) (r2 : Int) (r3 : Int) (r4 : Int) (r5 : Int) (r6 : Int) (r7 : Bool) (r8 : Int) (r9 : Int) (w : World) (hr0 : Kd.C (Kd.int .u8) w A0 l0.length l0) (hc0 : l0.length ≤ c0) (h : spec_DrawNarrowGrant.f k l0 = some (r1, r2, r3, r4, r5, r6, r7, r8, r9)) :
  Calls Try.prog 11 #[.slice A0 l0.length c0] w fun e w' => e = .returned (.tuple #[.agg #[.int .i64 r1, .int .i64 r2, .int .i64 r3, .int .i64 r4, .int .i64 r5, .int .i64 r6, .bool r7], .agg #[.int .i64 r8, .int .i64 r9]]) ∧ Below w.heap.size w w' := by
 have hu35 := Try.underlying35
 have hu33 := Try.underlying33
 have HR0 := am hr0
 have HC0 := am hc0
 clear hr0 hc0
 have HB := am (Below.refl w.heap.size w)
 unfold spec_DrawNarrowGrant.f at h
 have H := h
 clear h
 replace H := bO H
 obtain ⟨⟨t356, t357, t358⟩, A2, H⟩ := H
 try dsimp only at H
 replace H := bO H
 obtain ⟨⟨t360, t361, t362, t363, t364, t365, t366, t367, t368⟩, A3, H⟩ := H
 try dsimp only at H
 replace H := bO H
 obtain ⟨⟨t370, t371, t372, t373⟩, A4, H⟩ := H
 try dsimp only at H
 simp only [Option.some.injEq, Prod.mk.injEq] at H
 obtain ⟨rfl, rfl, rfl, rfl, rfl, rfl, rfl, rfl, rfl⟩ := H
 go_enter Try.func11, Try.ntmps11
 try go_wp2_with (first | ((with_reducible refine gate_dst (N := 2) rfl ?_); refine bE 2 #[.int .i64 0, .int .i64 0, .int .i64 0, .int .i64 0, .int .i64 0, .int .i64 0, .bool false] 35 ?_; intro gb354 hg w5 hbox hb; have q_ := hbx_ (sB HB.out) hg hb; have n0_ := q_.1; have n1_ := am (hbox); have n2_ := q_.2; have n3_ := n2_; clear HB; have HB := n0_; have BK354 := n1_; have GW354 := n2_; have GE354 := n3_; clear n0_ n1_ n2_ n3_ hb hbox hg) | ((with_reducible refine gate_dst (N := 3) rfl ?_); refine bE 3 #[.int .i64 0, .int .i64 0] 33 ?_; intro gb355 hg w6 hbox hb; have n0_ := am (Kb (bB BK354.out) hb); have q_ := hbx_ (sB HB.out) hg hb; have n1_ := q_.1; have n2_ := am (hbox); have n3_ := q_.2; have n4_ := n3_; have n5_ := nL hg (bB BK354.out); have n6_ := nR hg (bB BK354.out); clear BK354; clear HB; have BK354 := n0_; have HB := n1_; have BK355 := n2_; have GW355 := n3_; have GE355 := n4_; have NB354_355 := n5_; have NB355_354 := n6_; clear n0_ n1_ n2_ n3_ n4_ n5_ n6_; clear hb hbox hg) | ((with_reducible refine gate_callee (f := 30) rfl ?_); refine gL (some 7) Try.func30 #[.slice A0 l0.length c0] ?_; (with_reducible refine (spec_l1New.calls k _ _ l0 t356 t357 t358 w _ ?side1 ?side2 ?side3 A2.out).mono ?_); (case side1 => repeat (first | (with_reducible first | exact HB.out | apply Ky | apply Kj | apply Ks | refine Ki ?_ GE354.out | refine Ki ?_ GE355.out) | exact HB.out)); (case side2 => exact HR0.out); (case side3 => exact HC0.out); rintro e w7 ⟨g359, rfl, hi, hb, hb2⟩; refine ⟨_, rfl, ?_⟩; have n0_ := am (Kb (bB BK354.out) hb2); have n1_ := am (Kb (bB BK355.out) hb2); have n2_ := am (hb); have n3_ := am (hi); have n4_ := am (IsS92.ne_blk hi (Kb (bB BK354.out) hb2) (by decide)); have n5_ := am (Ne.symm (IsS92.ne_blk hi (Kb (bB BK354.out) hb2) (by decide))); have n6_ := am (IsS92.ne_blk hi (Kb (bB BK355.out) hb2) (by decide)); have n7_ := am (Ne.symm (IsS92.ne_blk hi (Kb (bB BK355.out) hb2) (by decide))); clear BK354; clear BK355; clear HB; have BK354 := n0_; have BK355 := n1_; have HB := n2_; have HI359 := n3_; have NB359_354 := n4_; have NB354_359 := n5_; have NB359_355 := n6_; have NB355_359 := n7_; clear n0_ n1_ n2_ n3_ n4_ n5_ n6_ n7_; (try clear hb); (try clear hb2); (try clear hi)) | ((with_reducible refine gate_callee (f := 38) rfl ?_); refine gL (some 9) Try.func38 #[.pointer (some ⟨g359, 0, none⟩)] ?_; (with_reducible refine (spec_l10Any.calls g359 t356 t357 t358 t360 t361 t362 t363 t364 t365 t366 t367 t368 w _ ?side1 ?side2 A3.out).mono ?_); (case side1 => exact iU NB359_354.out NB359_355.out HI359.out); (case side2 => repeat (first | (with_reducible first | exact HB.out | apply Ky | apply Kj | apply Ks | refine Ki ?_ (IsS92.ge HI359.out) | refine Ki ?_ GE354.out | refine Ki ?_ GE355.out) | exact HB.out)); rintro e w8 ⟨rfl, hi, hb, hk⟩; refine ⟨_, rfl, ?_⟩; replace BK354 := am (Kv hk (bB BK354.out) NB354_359.out (by simp)); replace BK355 := am (Kv hk (bB BK355.out) NB355_359.out (by simp)); replace HB := am (hb); replace HI359 := am (hi); (try clear hb); (try clear hk); (try clear hi)) | ((with_reducible refine gate_dst (N := 5) rfl ?_); refine bE 5 #[.int .i64 0, .int .i64 0, .int .i64 0, .int .i64 0, .int .i64 0, .int .i64 0, .bool false] 35 ?_; intro gb369 hg w9 hbox hb; have n0_ := am (Kb (bB BK354.out) hb); have n1_ := am (Kb (bB BK355.out) hb); have n2_ := am (IsS92.below (iU NB359_354.out NB359_355.out HI359.out) hb); have q_ := hbx_ (by repeat (first | (with_reducible first | exact HB.out | apply Ky | apply Kj | apply Ks | refine Ki ?_ (IsS92.ge HI359.out) | refine Ki ?_ GE354.out | refine Ki ?_ GE355.out) | exact HB.out)) hg hb; have n3_ := q_.1; have n4_ := am (hbox); have n5_ := q_.2; have n6_ := n5_; have n7_ := nL hg (bB BK354.out); have n8_ := nR hg (bB BK354.out); have n9_ := nL hg (bB BK355.out); have n10_ := nR hg (bB BK355.out); have n11_ := am ((by rw [hg]; exact Nat.ne_of_lt (IsS92.lt (show IsS92 w _ g359 t356 t367 t368 from (iU NB359_354.out NB359_355.out HI359.out))) : g359 ≠ gb369)); have n12_ := am ((by rw [hg]; exact Nat.ne_of_gt (IsS92.lt (show IsS92 w _ g359 t356 t367 t368 from (iU NB359_354.out NB359_355.out HI359.out))) : gb369 ≠ g359)); clear BK354; clear BK355; clear HI359; clear HB; have BK354 := n0_; have BK355 := n1_; have HI359 := n2_; have HB := n3_; have BK369 := n4_; have GW369 := n5_; have GE369 := n6_; have NB354_369 := n7_; have NB369_354 := n8_; have NB355_369 := n9_; have NB369_355 := n10_; have NB359_369 := n11_; have NB369_359 := n12_; clear n0_ n1_ n2_ n3_ n4_ n5_ n6_ n7_ n8_ n9_ n10_ n11_ n12_; clear hb hbox hg; have hnb10 := NB369_354.out; have hnc10 := NB354_369.out; have hnb11 := NB369_355.out; have hnc11 := NB355_369.out; have hnb12 := NB369_359.out; have hnc12 := NB359_369.out; obtain ⟨hcz13_0, hcz13_1, hcz13_2, hcz13_3, hcz13_4, hcz13_5, hcz13_6, hfz13_0, hfz13_1, hfz13_2, hfz13_3, hfz13_4, hfz13_5, hfz13_6⟩ := blk7 BK369.out))
 have n0_ : Aside0 ((((((((w9.setCell ⟨gb369, 0, none⟩ (.int .i64 t360)).setCell ⟨gb369, 1, none⟩ (.int .i64 t361)).setCell ⟨gb369, 2, none⟩ (.int .i64 t362)).setCell ⟨gb369, 3, none⟩ (.int .i64 t363)).setCell ⟨gb369, 4, none⟩ (.int .i64 t364)).setCell ⟨gb369, 5, none⟩ (.int .i64 t365)).setCell ⟨gb369, 6, none⟩ (.bool t366)).heap[gb354]? = some (.cells #[.int .i64 0, .int .i64 0, .int .i64 0, .int .i64 0, .int .i64 0, .int .i64 0, .bool false] 35 (0, 0))) := ⟨by refine bB ?_; refine blk_far ?_ NB354_369.out _; refine bB ?_; refine blk_far ?_ NB354_369.out _; refine bB ?_; refine blk_far ?_ NB354_369.out _; refine bB ?_; refine blk_far ?_ NB354_369.out _; refine bB ?_; refine blk_far ?_ NB354_369.out _; refine bB ?_; refine blk_far ?_ NB354_369.out _; refine bB ?_; refine blk_far ?_ NB354_369.out _; refine bB ?_; exact BK354.out⟩
 have n1_ : Aside0 ((((((((w9.setCell ⟨gb369, 0, none⟩ (.int .i64 t360)).setCell ⟨gb369, 1, none⟩ (.int .i64 t361)).setCell ⟨gb369, 2, none⟩ (.int .i64 t362)).setCell ⟨gb369, 3, none⟩ (.int .i64 t363)).setCell ⟨gb369, 4, none⟩ (.int .i64 t364)).setCell ⟨gb369, 5, none⟩ (.int .i64 t365)).setCell ⟨gb369, 6, none⟩ (.bool t366)).heap[gb355]? = some (.cells #[.int .i64 0, .int .i64 0] 33 (0, 0))) := ⟨by refine bB ?_; refine blk_far ?_ NB355_369.out _; refine bB ?_; refine blk_far ?_ NB355_369.out _; refine bB ?_; refine blk_far ?_ NB355_369.out _; refine bB ?_; refine blk_far ?_ NB355_369.out _; refine bB ?_; refine blk_far ?_ NB355_369.out _; refine bB ?_; refine blk_far ?_ NB355_369.out _; refine bB ?_; refine blk_far ?_ NB355_369.out _; refine bB ?_; exact BK355.out⟩
 have n2_ : Aside0 ((((((((w9.setCell ⟨gb369, 0, none⟩ (.int .i64 t360)).setCell ⟨gb369, 1, none⟩ (.int .i64 t361)).setCell ⟨gb369, 2, none⟩ (.int .i64 t362)).setCell ⟨gb369, 3, none⟩ (.int .i64 t363)).setCell ⟨gb369, 4, none⟩ (.int .i64 t364)).setCell ⟨gb369, 5, none⟩ (.int .i64 t365)).setCell ⟨gb369, 6, none⟩ (.bool t366)).heap[gb369]? = some (.cells #[.int .i64 t360, .int .i64 t361, .int .i64 t362, .int .i64 t363, .int .i64 t364, .int .i64 t365, .bool t366] 35 (0, 0))) := ⟨by refine bB ?_; refine Kg (cs := #[.int .i64 t360, .int .i64 t361, .int .i64 t362, .int .i64 t363, .int .i64 t364, .int .i64 t365, .bool false]) ?_ 6 _ rfl; refine bB ?_; refine Kg (cs := #[.int .i64 t360, .int .i64 t361, .int .i64 t362, .int .i64 t363, .int .i64 t364, .int .i64 0, .bool false]) ?_ 5 _ rfl; refine bB ?_; refine Kg (cs := #[.int .i64 t360, .int .i64 t361, .int .i64 t362, .int .i64 t363, .int .i64 0, .int .i64 0, .bool false]) ?_ 4 _ rfl; refine bB ?_; refine Kg (cs := #[.int .i64 t360, .int .i64 t361, .int .i64 t362, .int .i64 0, .int .i64 0, .int .i64 0, .bool false]) ?_ 3 _ rfl; refine bB ?_; refine Kg (cs := #[.int .i64 t360, .int .i64 t361, .int .i64 0, .int .i64 0, .int .i64 0, .int .i64 0, .bool false]) ?_ 2 _ rfl; refine bB ?_; refine Kg (cs := #[.int .i64 t360, .int .i64 0, .int .i64 0, .int .i64 0, .int .i64 0, .int .i64 0, .bool false]) ?_ 1 _ rfl; refine bB ?_; refine Kg (cs := #[.int .i64 0, .int .i64 0, .int .i64 0, .int .i64 0, .int .i64 0, .int .i64 0, .bool false]) ?_ 0 _ rfl; refine bB ?_; exact BK369.out⟩
 have n3_ : Aside0 (IsS92 w (((((((w9.setCell ⟨gb369, 0, none⟩ (.int .i64 t360)).setCell ⟨gb369, 1, none⟩ (.int .i64 t361)).setCell ⟨gb369, 2, none⟩ (.int .i64 t362)).setCell ⟨gb369, 3, none⟩ (.int .i64 t363)).setCell ⟨gb369, 4, none⟩ (.int .i64 t364)).setCell ⟨gb369, 5, none⟩ (.int .i64 t365)).setCell ⟨gb369, 6, none⟩ (.bool t366)) g359 t356 t367 t368) := ⟨by repeat (first | (with_reducible first | exact HI359.out | apply IsS92.alloc | apply IsS92.drewN | apply IsS92.drew | apply IsS92.set_1 | apply IsS92.set_2 | refine IsS92.far ?_ NB359_354.out _ | refine IsS92.far ?_ NB359_355.out _ | refine IsS92.far ?_ NB359_369.out _) | exact HI359.out)⟩
 have n4_ : Aside0 (Below w.heap.size w (((((((w9.setCell ⟨gb369, 0, none⟩ (.int .i64 t360)).setCell ⟨gb369, 1, none⟩ (.int .i64 t361)).setCell ⟨gb369, 2, none⟩ (.int .i64 t362)).setCell ⟨gb369, 3, none⟩ (.int .i64 t363)).setCell ⟨gb369, 4, none⟩ (.int .i64 t364)).setCell ⟨gb369, 5, none⟩ (.int .i64 t365)).setCell ⟨gb369, 6, none⟩ (.bool t366))) := ⟨by repeat (first | (with_reducible first | exact HB.out | apply Ky | apply Kj | apply Ks | refine Ki ?_ (IsS92.ge HI359.out) | refine Ki ?_ GE354.out | refine Ki ?_ GE355.out | refine Ki ?_ GE369.out) | exact HB.out)⟩
 (try clear BK354)
 (try clear BK355)
 (try clear BK369)
 (try clear HI359)
 (try clear HB)
 generalize (((((((w9.setCell ⟨gb369, 0, none⟩ (.int .i64 t360)).setCell ⟨gb369, 1, none⟩ (.int .i64 t361)).setCell ⟨gb369, 2, none⟩ (.int .i64 t362)).setCell ⟨gb369, 3, none⟩ (.int .i64 t363)).setCell ⟨gb369, 4, none⟩ (.int .i64 t364)).setCell ⟨gb369, 5, none⟩ (.int .i64 t365)).setCell ⟨gb369, 6, none⟩ (.bool t366)) = w14 at n0_ n1_ n2_ n3_ n4_ ⊢
 have BK354 := n0_
 have BK355 := n1_
 have BK369 := n2_
 have HI359 := n3_
 have HB := n4_
 clear n0_ n1_ n2_ n3_ n4_
 replace BK354 := am (blk_drew BK354.out)
 replace BK355 := am (blk_drew BK355.out)
 replace BK369 := am (blk_drew BK369.out)
 replace HI359 := am (IsS92.drew HI359.out)
 replace HB := am (Ks HB.out)
 refine start_ (n := 5) (S := fun w' => w'.cell? ⟨gb369, 0, none⟩ = some (.int .i64 t360) ∧ w'.cell? ⟨gb369, 1, none⟩ = some (.int .i64 t361) ∧ w'.cell? ⟨gb369, 2, none⟩ = some (.int .i64 t362) ∧ w'.cell? ⟨gb369, 3, none⟩ = some (.int .i64 t363) ∧ w'.cell? ⟨gb369, 4, none⟩ = some (.int .i64 t364) ∧ w'.cell? ⟨gb369, 5, none⟩ = some (.int .i64 t365) ∧ w'.cell? ⟨gb369, 6, none⟩ = some (.bool t366)) (ds := []) #[false, false, false, false, false] (by kernel_rfl) rfl rfl ⟨(Kk BK369.out 0).trans rfl, (Kk BK369.out 1).trans rfl, (Kk BK369.out 2).trans rfl, (Kk BK369.out 3).trans rfl, (Kk BK369.out 4).trans rfl, (Kk BK369.out 5).trans rfl, (Kk BK369.out 6).trans rfl⟩ (fun hHeld => ?_)
 generalize w14.drew = w15 at BK354 BK355 BK369 HI359 HB hHeld ⊢
 refine pure_ (i := 1) (N := some 11) (v := ?_) (a' := ?_) #[false, true, false, false, false] rfl rfl (by kernel_rfl) (fun _ _ _ h => h) (Or.inl ⟨by rfl, ?_⟩) ?_ ?_
 rotate_left
 ·intro w'
  go_simp
  with_reducible rfl
 rotate_left
 ·simp only [Act.put, qa, qb, qc, i64_w, i32_w]
  rfl
 refine take_ (i := 0) (N := some 10) (v := ?_) (a' := ?_) #[true, true, false, false, false] rfl rfl (by kernel_rfl) (fun _ _ _ h => h) (Or.inl ⟨by rfl, ?_⟩) hHeld ?_ ?_
 rotate_left
 ·rintro w' ⟨s0, s1, s2, s3, s4, s5, s6⟩
  go_simp
  with_reducible rfl
 rotate_left
 ·simp only [Act.put, qa, qb, qc, i64_w, i32_w]
  rfl
 refine one_ (i := 2) (N := some 12) #[true, true, true, false, false] rfl rfl (by kernel_rfl) (by decide) (fun K hK => ?_)
 refine gS Try.func39 #[.pointer (some ⟨g359, 0, none⟩)] ?_
 with_reducible refine (spec_l9Any.calls g359 t356 t367 t368 t370 t371 t372 t373 w _ ?side1 ?side2 A4.out).mono ?_
 (case side1 => repeat (first | (with_reducible first | exact HI359.out | apply IsS92.alloc | apply IsS92.drewN | apply IsS92.drew | apply IsS92.set_1 | apply IsS92.set_2 | refine IsS92.far ?_ NB359_354.out _ | refine IsS92.far ?_ NB359_355.out _ | refine IsS92.far ?_ NB359_369.out _) | exact HI359.out))
 (case side2 => repeat (first | (with_reducible first | exact HB.out | apply Ky | apply Kj | apply Ks | refine Ki ?_ (IsS92.ge HI359.out) | refine Ki ?_ GE354.out | refine Ki ?_ GE355.out | refine Ki ?_ GE369.out) | exact HB.out))
 rintro e w16 ⟨rfl, hi, hb, hk⟩
 refine ⟨_, rfl, ?_⟩
 replace BK354 := am (Kv hk (bB BK354.out) NB354_359.out (by simp))
 replace BK355 := am (Kv hk (bB BK355.out) NB355_359.out (by simp))
 replace BK369 := am (Kv hk (bB BK369.out) NB369_359.out (by simp))
 replace HB := am (hb)
 replace HI359 := am (hi)
 (try clear hb)
 (try clear hb2)
 (try clear hk)
 (try clear hi)
 refine hK.out _ _ ⟨(Kk BK369.out 0).trans rfl, (Kk BK369.out 1).trans rfl, (Kk BK369.out 2).trans rfl, (Kk BK369.out 3).trans rfl, (Kk BK369.out 4).trans rfl, (Kk BK369.out 5).trans rfl, (Kk BK369.out 6).trans rfl⟩ (fun hHeld => ?_)
 clear hK K
 refine norm_ (a' := ?_) ?_ ?_
 rotate_left
 ·show Act.put _ (some 12) _ = _
  simp only [Act.put, qa, qb, qc, i64_w, i32_w]
  rfl
 refine one_ (i := 3) (N := none) #[true, true, true, true, false] rfl rfl (by kernel_rfl) (by decide) (fun K hK => ?_)
 have hs17 : w16.cell? ⟨gb354, 0, none⟩ = some (.int .i64 0) := (Kk BK354.out 0).trans rfl
 have hfs17 := Kr BK354.out 0
 have hns17_1 := NB355_354.out
 have hns17_2 := NB369_354.out
 have hms17_1 := NB354_355.out
 have hms17_2 := NB354_369.out
 have hs18 : w16.cell? ⟨gb354, 1, none⟩ = some (.int .i64 0) := (Kk BK354.out 1).trans rfl
 have hfs18 := Kr BK354.out 1
 have hns18_1 := NB355_354.out
 have hns18_2 := NB369_354.out
 have hms18_1 := NB354_355.out
 have hms18_2 := NB354_369.out
 have hs19 : w16.cell? ⟨gb354, 2, none⟩ = some (.int .i64 0) := (Kk BK354.out 2).trans rfl
 have hfs19 := Kr BK354.out 2
 have hns19_1 := NB355_354.out
 have hns19_2 := NB369_354.out
 have hms19_1 := NB354_355.out
 have hms19_2 := NB354_369.out
 have hs20 : w16.cell? ⟨gb354, 3, none⟩ = some (.int .i64 0) := (Kk BK354.out 3).trans rfl
 have hfs20 := Kr BK354.out 3
 have hns20_1 := NB355_354.out
 have hns20_2 := NB369_354.out
 have hms20_1 := NB354_355.out
 have hms20_2 := NB354_369.out
 have hs21 : w16.cell? ⟨gb354, 4, none⟩ = some (.int .i64 0) := (Kk BK354.out 4).trans rfl
 have hfs21 := Kr BK354.out 4
 have hns21_1 := NB355_354.out
 have hns21_2 := NB369_354.out
 have hms21_1 := NB354_355.out
 have hms21_2 := NB354_369.out
 have hs22 : w16.cell? ⟨gb354, 5, none⟩ = some (.int .i64 0) := (Kk BK354.out 5).trans rfl
 have hfs22 := Kr BK354.out 5
 have hns22_1 := NB355_354.out
 have hns22_2 := NB369_354.out
 have hms22_1 := NB354_355.out
 have hms22_2 := NB354_369.out
 have hs23 : w16.cell? ⟨gb354, 6, none⟩ = some (.bool false) := (Kk BK354.out 6).trans rfl
 have hfs23 := Kr BK354.out 6
 have hns23_1 := NB355_354.out
 have hns23_2 := NB369_354.out
 have hms23_1 := NB354_355.out
 have hms23_2 := NB354_369.out
 refine skip_ (w1 := ?_) ?_ ?_ ?_ ?_
 rotate_left
 ·rfl
 ·rfl
 ·go_simp
  rfl
 refine hK.out _ _ ⟨((Kn (p := ⟨gb354, _, none⟩) NB369_354.out _).trans (((Kn (p := ⟨gb354, _, none⟩) NB369_354.out _).trans (((Kn (p := ⟨gb354, _, none⟩) NB369_354.out _).trans (((Kn (p := ⟨gb354, _, none⟩) NB369_354.out _).trans (((Kn (p := ⟨gb354, _, none⟩) NB369_354.out _).trans (((Kn (p := ⟨gb354, _, none⟩) NB369_354.out _).trans (((Kn (p := ⟨gb354, _, none⟩) NB369_354.out _).trans (hHeld.1)))))))))))))), ((Kn (p := ⟨gb354, _, none⟩) NB369_354.out _).trans (((Kn (p := ⟨gb354, _, none⟩) NB369_354.out _).trans (((Kn (p := ⟨gb354, _, none⟩) NB369_354.out _).trans (((Kn (p := ⟨gb354, _, none⟩) NB369_354.out _).trans (((Kn (p := ⟨gb354, _, none⟩) NB369_354.out _).trans (((Kn (p := ⟨gb354, _, none⟩) NB369_354.out _).trans (((Kn (p := ⟨gb354, _, none⟩) NB369_354.out _).trans (hHeld.2.1)))))))))))))), ((Kn (p := ⟨gb354, _, none⟩) NB369_354.out _).trans (((Kn (p := ⟨gb354, _, none⟩) NB369_354.out _).trans (((Kn (p := ⟨gb354, _, none⟩) NB369_354.out _).trans (((Kn (p := ⟨gb354, _, none⟩) NB369_354.out _).trans (((Kn (p := ⟨gb354, _, none⟩) NB369_354.out _).trans (((Kn (p := ⟨gb354, _, none⟩) NB369_354.out _).trans (((Kn (p := ⟨gb354, _, none⟩) NB369_354.out _).trans (hHeld.2.2.1)))))))))))))), ((Kn (p := ⟨gb354, _, none⟩) NB369_354.out _).trans (((Kn (p := ⟨gb354, _, none⟩) NB369_354.out _).trans (((Kn (p := ⟨gb354, _, none⟩) NB369_354.out _).trans (((Kn (p := ⟨gb354, _, none⟩) NB369_354.out _).trans (((Kn (p := ⟨gb354, _, none⟩) NB369_354.out _).trans (((Kn (p := ⟨gb354, _, none⟩) NB369_354.out _).trans (((Kn (p := ⟨gb354, _, none⟩) NB369_354.out _).trans (hHeld.2.2.2.1)))))))))))))), ((Kn (p := ⟨gb354, _, none⟩) NB369_354.out _).trans (((Kn (p := ⟨gb354, _, none⟩) NB369_354.out _).trans (((Kn (p := ⟨gb354, _, none⟩) NB369_354.out _).trans (((Kn (p := ⟨gb354, _, none⟩) NB369_354.out _).trans (((Kn (p := ⟨gb354, _, none⟩) NB369_354.out _).trans (((Kn (p := ⟨gb354, _, none⟩) NB369_354.out _).trans (((Kn (p := ⟨gb354, _, none⟩) NB369_354.out _).trans (hHeld.2.2.2.2.1)))))))))))))), ((Kn (p := ⟨gb354, _, none⟩) NB369_354.out _).trans (((Kn (p := ⟨gb354, _, none⟩) NB369_354.out _).trans (((Kn (p := ⟨gb354, _, none⟩) NB369_354.out _).trans (((Kn (p := ⟨gb354, _, none⟩) NB369_354.out _).trans (((Kn (p := ⟨gb354, _, none⟩) NB369_354.out _).trans (((Kn (p := ⟨gb354, _, none⟩) NB369_354.out _).trans (((Kn (p := ⟨gb354, _, none⟩) NB369_354.out _).trans (hHeld.2.2.2.2.2.1)))))))))))))), ((Kn (p := ⟨gb354, _, none⟩) NB369_354.out _).trans (((Kn (p := ⟨gb354, _, none⟩) NB369_354.out _).trans (((Kn (p := ⟨gb354, _, none⟩) NB369_354.out _).trans (((Kn (p := ⟨gb354, _, none⟩) NB369_354.out _).trans (((Kn (p := ⟨gb354, _, none⟩) NB369_354.out _).trans (((Kn (p := ⟨gb354, _, none⟩) NB369_354.out _).trans (((Kn (p := ⟨gb354, _, none⟩) NB369_354.out _).trans (hHeld.2.2.2.2.2.2))))))))))))))⟩ (fun hHeld => ?_)
 clear hK K
 refine one_ (i := 4) (N := none) #[true, true, true, true, true] rfl rfl (by kernel_rfl) (by decide) (fun K hK => ?_)
 have hs24 : w16.cell? ⟨gb355, 0, none⟩ = some (.int .i64 0) := (Kk BK355.out 0).trans rfl
 have hfs24 := Kr BK355.out 0
 have hns24_0 := NB354_355.out
 have hns24_2 := NB369_355.out
 have hms24_0 := NB355_354.out
 have hms24_2 := NB355_369.out
 have hs25 : w16.cell? ⟨gb355, 1, none⟩ = some (.int .i64 0) := (Kk BK355.out 1).trans rfl
 have hfs25 := Kr BK355.out 1
 have hns25_0 := NB354_355.out
 have hns25_2 := NB369_355.out
 have hms25_0 := NB355_354.out
 have hms25_2 := NB355_369.out
 refine skip_ (w1 := ?_) ?_ ?_ ?_ ?_
 rotate_left
 ·rfl
 ·rfl
 ·go_simp
  rfl
 refine hK.out _ _ ⟨((Kn (p := ⟨gb355, _, none⟩) NB369_355.out _).trans (((Kn (p := ⟨gb355, _, none⟩) NB369_355.out _).trans (hHeld.1)))), ((Kn (p := ⟨gb355, _, none⟩) NB369_355.out _).trans (((Kn (p := ⟨gb355, _, none⟩) NB369_355.out _).trans (hHeld.2.1)))), ((Kn (p := ⟨gb355, _, none⟩) NB369_355.out _).trans (((Kn (p := ⟨gb355, _, none⟩) NB369_355.out _).trans (hHeld.2.2.1)))), ((Kn (p := ⟨gb355, _, none⟩) NB369_355.out _).trans (((Kn (p := ⟨gb355, _, none⟩) NB369_355.out _).trans (hHeld.2.2.2.1)))), ((Kn (p := ⟨gb355, _, none⟩) NB369_355.out _).trans (((Kn (p := ⟨gb355, _, none⟩) NB369_355.out _).trans (hHeld.2.2.2.2.1)))), ((Kn (p := ⟨gb355, _, none⟩) NB369_355.out _).trans (((Kn (p := ⟨gb355, _, none⟩) NB369_355.out _).trans (hHeld.2.2.2.2.2.1)))), ((Kn (p := ⟨gb355, _, none⟩) NB369_355.out _).trans (((Kn (p := ⟨gb355, _, none⟩) NB369_355.out _).trans (hHeld.2.2.2.2.2.2))))⟩ (fun hHeld => ?_)
 clear hK K
 refine done_ (by kernel_rfl) ?_
 try go_wp2
 refine bodyPost_ret (results_cc rfl _ _ gb354 gb355 35 33 #[.int .i64 t360, .int .i64 t361, .int .i64 t362, .int .i64 t363, .int .i64 t364, .int .i64 t365, .bool t366] #[.int .i64 t370, .int .i64 t371] (0, 0) (0, 0) _ _ rfl (by refine bB ?_; refine blk_far ?_ NB354_355.out _; refine bB ?_; refine blk_far ?_ NB354_355.out _; refine bB ?_; refine Kg (cs := #[.int .i64 t360, .int .i64 t361, .int .i64 t362, .int .i64 t363, .int .i64 t364, .int .i64 t365, .bool false]) ?_ 6 _ rfl; refine bB ?_; refine Kg (cs := #[.int .i64 t360, .int .i64 t361, .int .i64 t362, .int .i64 t363, .int .i64 t364, .int .i64 0, .bool false]) ?_ 5 _ rfl; refine bB ?_; refine Kg (cs := #[.int .i64 t360, .int .i64 t361, .int .i64 t362, .int .i64 t363, .int .i64 0, .int .i64 0, .bool false]) ?_ 4 _ rfl; refine bB ?_; refine Kg (cs := #[.int .i64 t360, .int .i64 t361, .int .i64 t362, .int .i64 0, .int .i64 0, .int .i64 0, .bool false]) ?_ 3 _ rfl; refine bB ?_; refine Kg (cs := #[.int .i64 t360, .int .i64 t361, .int .i64 0, .int .i64 0, .int .i64 0, .int .i64 0, .bool false]) ?_ 2 _ rfl; refine bB ?_; refine Kg (cs := #[.int .i64 t360, .int .i64 0, .int .i64 0, .int .i64 0, .int .i64 0, .int .i64 0, .bool false]) ?_ 1 _ rfl; refine bB ?_; refine Kg (cs := #[.int .i64 0, .int .i64 0, .int .i64 0, .int .i64 0, .int .i64 0, .int .i64 0, .bool false]) ?_ 0 _ rfl; refine bB ?_; exact BK354.out) Try.underlying35 rfl (by kernel_rfl) rfl (by refine bB ?_; refine Kg (cs := #[.int .i64 t370, .int .i64 0]) ?_ 1 _ rfl; refine bB ?_; refine Kg (cs := #[.int .i64 0, .int .i64 0]) ?_ 0 _ rfl; refine bB ?_; refine blk_far ?_ NB355_354.out _; refine bB ?_; refine blk_far ?_ NB355_354.out _; refine bB ?_; refine blk_far ?_ NB355_354.out _; refine bB ?_; refine blk_far ?_ NB355_354.out _; refine bB ?_; refine blk_far ?_ NB355_354.out _; refine bB ?_; refine blk_far ?_ NB355_354.out _; refine bB ?_; refine blk_far ?_ NB355_354.out _; refine bB ?_; exact BK355.out) Try.underlying33 rfl (by kernel_rfl)) rfl ?_
 exact ⟨by first | rfl | (simp [errW_none, errW_some] <;> rfl) | (simp [*, errW_none, errW_some] <;> rfl), by repeat (first | (with_reducible first | exact HB.out | apply Ky | apply Kj | apply Ks | refine Ki ?_ (IsS92.ge HI359.out) | refine Ki ?_ GE354.out | refine Ki ?_ GE355.out | refine Ki ?_ GE369.out) | exact HB.out)⟩

end Go.Proofs.Ytilneejgliglhaa.QN
