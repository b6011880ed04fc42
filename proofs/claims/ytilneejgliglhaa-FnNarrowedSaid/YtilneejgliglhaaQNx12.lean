/- Go functions as Lean functions, each with its walk; printed by a program of this session (a scratch copy of print.py that follows nested field addresses and tells a law for the answer true). -/
import Derived.Test.YtilneejgliglhaaQNx0
import Derived.Test.YtilneejgliglhaaQNxM0
namespace Go.Proofs.Ytilneejgliglhaa.QN
open Go.RowKit Go.Proofs.YtilneejgliglhaaW.PrintWords Go.Proofs.YtilneejgliglhaaW.PrintLast Go.Proofs.YtilneejgliglhaaW.PrintMore Go.Proofs.Ytilneejgliglhaa.Short
attribute [local go_sem] max2_int min2_int max_two min_two max_three min_three max_four min_four   -- for this text's walks alone
set_option linter.unusedVariables false
set_option linter.unusedSimpArgs false

/-! ### spec_DrawMayDo: function 6 -/
def spec_DrawMayDo.f (k : Nat) (l0 : List Int) : Option ((List (S35)) × (List (S70)) × Int × Int × Int × Int × Int × Bool) := (spec_l1New.f k l0).bind fun bt199 => ((spec_l10List.f k bt199.1 bt199.2.1 bt199.2.2).bind fun bt203 => ((spec_l11List.f k bt199.1 bt203.2.1 bt203.2.2).bind fun bt208 => ((spec_l1Below.f bt199.1 bt208.2.1 bt208.2.2 3).bind fun bt213 => ((spec_l9Site.f bt199.1 bt213.2.1 bt213.2.2).bind fun bt216 => ((spec_l1Below.f bt199.1 bt216.2.2.1 bt216.2.2.2 4).bind fun bt221 => ((spec_l1Below.f bt199.1 bt221.2.1 bt221.2.2 18).bind fun bt224 => ((spec_l1Once.f bt199.1 bt224.2.1 bt224.2.2 2).bind fun bt227 => (some (bt203.1, bt208.1, wrap64 (1 + bt213.1), bt216.1, bt216.2.1, wrap64 (1 + bt221.1), bt224.1, bt227.1)))))))))
def spec_DrawMayDo.T6 : Bool × List (List Nat × List Nat) := (true, [([], []), ([], []), ([], []), ([], []), ([], []), ([4], [4]), ([5], [5]), ([], []), ([7, 5], [7]), ([], []), ([9, 8], [9]), ([0, 10, 0], [0]), ([1, 11, 0, 1, 11], [1]), ([2, 12, 0, 1, 2, 11, 12], [2]), ([3, 13, 0, 1, 2, 3, 11, 12, 13], [3]), ([6, 14, 0, 1, 2, 3, 4, 5, 6, 11, 12, 13, 14], [6]), ([8, 15, 0, 1, 2, 3, 4, 5, 6, 7, 8, 11, 12, 13, 14, 15], [8]), ([10, 16, 0, 1, 2, 3, 4, 5, 6, 7, 8, 9, 10, 11, 12, 13, 14, 15, 16], [10])])
def spec_DrawMayDo.B6 : List Nat := [0, 0, 0, 0, 0, 16, 48, 0, 176, 0, 944, 1969, 4019, 8119, 16319, 32767, 65535, 131071]
theorem spec_DrawMayDo.tab6 : rtab .any (opsOf Try.f6 6) = spec_DrawMayDo.T6 := by kernel_rfl
theorem spec_DrawMayDo.bits6 : waitsOk spec_DrawMayDo.T6.2 spec_DrawMayDo.B6 = true := by kernel_rfl
set_option maxHeartbeats 8000000 in
set_option maxRecDepth 100000 in
theorem spec_DrawMayDo.calls (k : Nat) (A0 : Option Addr) (c0 : Nat) (l0 : List Int) (r1 : List (S35)) (r2 : List (S70)) (r3 : Int) (r4 : Int) (r5 : Int) (r6 : Int) (r7 : Int) (r8 : Bool) (w : World) (hr0 : Kd.C (Kd.int .u8) w A0 l0.length l0) (hc0 : l0.length ≤ c0) (h : spec_DrawMayDo.f k l0 = some (r1, r2, r3, r4, r5, r6, r7, r8)) :
  Calls Try.prog 6 #[.slice A0 l0.length c0] w fun e w' => ∃ v0_ v1_ : Value, e = .returned (.tuple #[v0_, v1_, .int .i64 r3, .agg #[.int .i64 r4, .int .i64 r5], .int .i64 r6, .int .i64 r7, .bool r8]) ∧ Kd.R k35 35 w' w.heap.size (fun _ => True) v0_ r1 ∧ Kd.R k70 70 w' w.heap.size (fun _ => True) v1_ r2 ∧ Below w.heap.size w w' := by
 have hu27 := Try.underlying27
 have HR0 := am hr0
 have HC0 := am hc0
 clear hr0 hc0
 have HB := am (Below.refl w.heap.size w)
 unfold spec_DrawMayDo.f at h
 have H := h
 clear h
 replace H := bO H
 obtain ⟨⟨t199, t200, t201⟩, A2, H⟩ := H
 try dsimp only at H
 replace H := bO H
 obtain ⟨⟨t203, t206, t207⟩, A3, H⟩ := H
 try dsimp only at H
 replace H := bO H
 obtain ⟨⟨t208, t211, t212⟩, A4, H⟩ := H
 try dsimp only at H
 replace H := bO H
 obtain ⟨⟨t213, t214, t215⟩, A5, H⟩ := H
 try dsimp only at H
 replace H := bO H
 obtain ⟨⟨t216, t217, t218, t219⟩, A6, H⟩ := H
 try dsimp only at H
 replace H := bO H
 obtain ⟨⟨t221, t222, t223⟩, A7, H⟩ := H
 try dsimp only at H
 replace H := bO H
 obtain ⟨⟨t224, t225, t226⟩, A8, H⟩ := H
 try dsimp only at H
 replace H := bO H
 obtain ⟨⟨t227, t228, t229⟩, A9, H⟩ := H
 try dsimp only at H
 simp only [Option.some.injEq, Prod.mk.injEq] at H
 obtain ⟨rfl, rfl, rfl, rfl, rfl, rfl, rfl, rfl⟩ := H
 go_enter Try.func6, Try.ntmps6
 try go_wp2_with (first | ((with_reducible refine gate_dst (N := 5) rfl ?_); refine bE 5 #[.int .i64 0, .int .i64 0] 27 ?_; intro gb198 hg w10 hbox hb; have q_ := hbx_ (sB HB.out) hg hb; have n0_ := q_.1; have n1_ := am (hbox); have n2_ := q_.2; have n3_ := n2_; clear HB; have HB := n0_; have BK198 := n1_; have GW198 := n2_; have GE198 := n3_; clear n0_ n1_ n2_ n3_ hb hbox hg) | ((with_reducible refine gate_callee (f := 30) rfl ?_); refine gL (some 15) Try.func30 #[.slice A0 l0.length c0] ?_; (with_reducible refine (spec_l1New.calls k _ _ l0 t199 t200 t201 w _ ?side1 ?side2 ?side3 A2.out).mono ?_); (case side1 => exact sG GE198.out HB.out); (case side2 => exact HR0.out); (case side3 => exact HC0.out); rintro e w11 ⟨g202, rfl, hi, hb, hb2⟩; refine ⟨_, rfl, ?_⟩; have n0_ := am (Kb (bB BK198.out) hb2); have n1_ := am (hb); have n2_ := am (hi); have n3_ := am (IsS92.ne_blk hi (Kb (bB BK198.out) hb2) (by decide)); have n4_ := am (Ne.symm (IsS92.ne_blk hi (Kb (bB BK198.out) hb2) (by decide))); clear BK198; clear HB; have BK198 := n0_; have HB := n1_; have HI202 := n2_; have NB202_198 := n3_; have NB198_202 := n4_; clear n0_ n1_ n2_ n3_ n4_; (try clear hb); (try clear hb2); (try clear hi)) | ((with_reducible refine gate_callee (f := 31) rfl ?_); refine gL (some 17) Try.func31 #[.pointer (some ⟨g202, 0, none⟩)] ?_; (with_reducible refine (spec_l10List.calls k g202 t199 t200 t201 t203 t206 t207 w _ ?side1 ?side2 A3.out).mono ?_); (case side1 => exact iT NB202_198.out HI202.out); (case side2 => repeat (first | (with_reducible first | exact HB.out | apply Ky | apply Kj | apply Ks | refine Ki ?_ (IsS92.ge HI202.out) | refine Ki ?_ GE198.out) | exact HB.out)); rintro e w12 ⟨v204, rfl, ho0, hi, hb, hk⟩; refine ⟨_, rfl, ?_⟩; have n0_ := am (Kv hk (bB BK198.out) NB198_202.out (by simp)); have n1_ := am (Kd.R_lower ho0 (below_size (by repeat (first | (with_reducible first | exact HB.out | apply Ky | apply Kj | apply Ks | refine Ki ?_ (IsS92.ge HI202.out) | refine Ki ?_ GE198.out) | exact HB.out)))); have n2_ := am (hb); have n3_ := am (hi); clear BK198; clear HB; clear HI202; have BK198 := n0_; have HO205 := n1_; have HB := n2_; have HI202 := n3_; clear n0_ n1_ n2_ n3_; (try clear hb); (try clear hk); (try clear hi); (try clear ho0)) | ((with_reducible refine gate_callee (f := 32) rfl ?_); refine gL (some 19) Try.func32 #[.pointer (some ⟨g202, 0, none⟩)] ?_; (with_reducible refine (spec_l11List.calls k g202 t199 t206 t207 t208 t211 t212 w _ ?side1 ?side2 A4.out).mono ?_); (case side1 => exact iT NB202_198.out HI202.out); (case side2 => repeat (first | (with_reducible first | exact HB.out | apply Ky | apply Kj | apply Ks | refine Ki ?_ (IsS92.ge HI202.out) | refine Ki ?_ GE198.out) | exact HB.out)); rintro e w13 ⟨v209, rfl, ho0, hi, hb, hk⟩; refine ⟨_, rfl, ?_⟩; have n0_ := am (Kv hk (bB BK198.out) NB198_202.out (by simp)); have n1_ := am (Kt (Kd.R_keep (IsS92.apart (show IsS92 w _ g202 t199 t206 t207 from (iT NB202_198.out HI202.out)) (rB HO205.out) (by decide)) hk (fun _ h => h.2)) (fun _ h => h.1)); have n2_ := am (Kd.R_lower ho0 (below_size (by repeat (first | (with_reducible first | exact HB.out | apply Ky | apply Kj | apply Ks | refine Ki ?_ (IsS92.ge HI202.out) | refine Ki ?_ GE198.out) | exact HB.out)))); have n3_ := am (hb); have n4_ := am (hi); clear BK198; clear HO205; clear HB; clear HI202; have BK198 := n0_; have HO205 := n1_; have HO210 := n2_; have HB := n3_; have HI202 := n4_; clear n0_ n1_ n2_ n3_ n4_; (try clear hb); (try clear hk); (try clear hi); (try clear ho0)) | ((with_reducible refine gate_callee (f := 33) rfl ?_); refine gL (some 21) Try.func33 #[.pointer (some ⟨g202, 0, none⟩), .int .i64 3] ?_; (with_reducible refine (spec_l1Below.calls g202 t199 t211 t212 3 t213 t214 t215 w _ ?side1 ?side2 A5.out).mono ?_); (case side1 => exact iT NB202_198.out HI202.out); (case side2 => repeat (first | (with_reducible first | exact HB.out | apply Ky | apply Kj | apply Ks | refine Ki ?_ (IsS92.ge HI202.out) | refine Ki ?_ GE198.out) | exact HB.out)); rintro e w14 ⟨rfl, hi, hb, hk⟩; refine ⟨_, rfl, ?_⟩; replace BK198 := am (Kv hk (bB BK198.out) NB198_202.out (by simp)); replace HO205 := am (Kt (Kd.R_keep (IsS92.apart (show IsS92 w _ g202 t199 t211 t212 from (iT NB202_198.out HI202.out)) (rB HO205.out) (by decide)) hk (fun _ h => h.2)) (fun _ h => h.1)); replace HO210 := am (Kt (Kd.R_keep (IsS92.apart (show IsS92 w _ g202 t199 t211 t212 from (iT NB202_198.out HI202.out)) (rB HO210.out) (by decide)) hk (fun _ h => h.2)) (fun _ h => h.1)); replace HB := am (hb); replace HI202 := am (hi); (try clear hb); (try clear hk); (try clear hi)) | ((with_reducible refine gate_callee (f := 34) rfl ?_); refine gL (some 24) Try.func34 #[.pointer (some ⟨g202, 0, none⟩)] ?_; (with_reducible refine (spec_l9Site.calls g202 t199 t214 t215 t216 t217 t218 t219 w _ ?side1 ?side2 A6.out).mono ?_); (case side1 => exact iT NB202_198.out HI202.out); (case side2 => repeat (first | (with_reducible first | exact HB.out | apply Ky | apply Kj | apply Ks | refine Ki ?_ (IsS92.ge HI202.out) | refine Ki ?_ GE198.out) | exact HB.out)); rintro e w15 ⟨rfl, hi, hb, hk⟩; refine ⟨_, rfl, ?_⟩; replace BK198 := am (Kv hk (bB BK198.out) NB198_202.out (by simp)); replace HO205 := am (Kt (Kd.R_keep (IsS92.apart (show IsS92 w _ g202 t199 t214 t215 from (iT NB202_198.out HI202.out)) (rB HO205.out) (by decide)) hk (fun _ h => h.2)) (fun _ h => h.1)); replace HO210 := am (Kt (Kd.R_keep (IsS92.apart (show IsS92 w _ g202 t199 t214 t215 from (iT NB202_198.out HI202.out)) (rB HO210.out) (by decide)) hk (fun _ h => h.2)) (fun _ h => h.1)); replace HB := am (hb); replace HI202 := am (hi); (try clear hb); (try clear hk); (try clear hi)) | ((with_reducible refine gate_dst (N := 13) rfl ?_); refine bE 13 #[.int .i64 0, .int .i64 0] 27 ?_; intro gb220 hg w16 hbox hb; have n0_ := am (Ko (rB HO205.out) hb); have n1_ := am (Ko (rB HO210.out) hb); have n2_ := am (Kb (bB BK198.out) hb); have n3_ := am (IsS92.below (iT NB202_198.out HI202.out) hb); have q_ := hbx_ (by repeat (first | (with_reducible first | exact HB.out | apply Ky | apply Kj | apply Ks | refine Ki ?_ (IsS92.ge HI202.out) | refine Ki ?_ GE198.out) | exact HB.out)) hg hb; have n4_ := q_.1; have n5_ := am (hbox); have n6_ := q_.2; have n7_ := n6_; have n8_ := nL hg (bB BK198.out); have n9_ := nR hg (bB BK198.out); have n10_ := am ((by rw [hg]; exact Nat.ne_of_lt (IsS92.lt (show IsS92 w _ g202 t199 t218 t219 from (iT NB202_198.out HI202.out))) : g202 ≠ gb220)); have n11_ := am ((by rw [hg]; exact Nat.ne_of_gt (IsS92.lt (show IsS92 w _ g202 t199 t218 t219 from (iT NB202_198.out HI202.out))) : gb220 ≠ g202)); clear HO205; clear HO210; clear BK198; clear HI202; clear HB; have HO205 := n0_; have HO210 := n1_; have BK198 := n2_; have HI202 := n3_; have HB := n4_; have BK220 := n5_; have GW220 := n6_; have GE220 := n7_; have NB198_220 := n8_; have NB220_198 := n9_; have NB202_220 := n10_; have NB220_202 := n11_; clear n0_ n1_ n2_ n3_ n4_ n5_ n6_ n7_ n8_ n9_ n10_ n11_; clear hb hbox hg; have hnb17 := NB220_198.out; have hnc17 := NB198_220.out; have hnb18 := NB220_202.out; have hnc18 := NB202_220.out; obtain ⟨hcz19_0, hcz19_1, hfz19_0, hfz19_1⟩ := blk2 BK220.out))
 have n0_ : Aside0 (Kd.R k35 35 ((w16.setCell ⟨gb220, 0, none⟩ (.int .i64 t216)).setCell ⟨gb220, 1, none⟩ (.int .i64 t217)) w.heap.size (fun _ => True) v204 t203) := ⟨by (with_reducible repeat (first | apply Kd.R_alloc | apply Kd.R_drewN | apply Kd.R_drew)); exact Kt (Kd.R_far (p := ⟨gb220, 1, none⟩) (Kd.R_far (p := ⟨gb220, 0, none⟩) (Kd.R_types HO205.out BK220.out (by decide)) (fun _ hk => hk.2) (.int .i64 t216)) (fun _ hk => hk.2) (.int .i64 t217)) (fun _ hk => trivial)⟩
 have n1_ : Aside0 (Kd.R k70 70 ((w16.setCell ⟨gb220, 0, none⟩ (.int .i64 t216)).setCell ⟨gb220, 1, none⟩ (.int .i64 t217)) w.heap.size (fun _ => True) v209 t208) := ⟨by (with_reducible repeat (first | apply Kd.R_alloc | apply Kd.R_drewN | apply Kd.R_drew)); exact Kt (Kd.R_far (p := ⟨gb220, 1, none⟩) (Kd.R_far (p := ⟨gb220, 0, none⟩) (Kd.R_types HO210.out BK220.out (by decide)) (fun _ hk => hk.2) (.int .i64 t216)) (fun _ hk => hk.2) (.int .i64 t217)) (fun _ hk => trivial)⟩
 have n2_ : Aside0 (((w16.setCell ⟨gb220, 0, none⟩ (.int .i64 t216)).setCell ⟨gb220, 1, none⟩ (.int .i64 t217)).heap[gb198]? = some (.cells #[.int .i64 0, .int .i64 0] 27 (0, 0))) := ⟨by refine bB ?_; refine blk_far ?_ NB198_220.out _; refine bB ?_; refine blk_far ?_ NB198_220.out _; refine bB ?_; exact BK198.out⟩
 have n3_ : Aside0 (((w16.setCell ⟨gb220, 0, none⟩ (.int .i64 t216)).setCell ⟨gb220, 1, none⟩ (.int .i64 t217)).heap[gb220]? = some (.cells #[.int .i64 t216, .int .i64 t217] 27 (0, 0))) := ⟨by refine bB ?_; refine Kg (cs := #[.int .i64 t216, .int .i64 0]) ?_ 1 _ rfl; refine bB ?_; refine Kg (cs := #[.int .i64 0, .int .i64 0]) ?_ 0 _ rfl; refine bB ?_; exact BK220.out⟩
 have n4_ : Aside0 (IsS92 w ((w16.setCell ⟨gb220, 0, none⟩ (.int .i64 t216)).setCell ⟨gb220, 1, none⟩ (.int .i64 t217)) g202 t199 t218 t219) := ⟨(iU NB202_198.out NB202_220.out HI202.out)⟩
 have n5_ : Aside0 (Below w.heap.size w ((w16.setCell ⟨gb220, 0, none⟩ (.int .i64 t216)).setCell ⟨gb220, 1, none⟩ (.int .i64 t217))) := ⟨by repeat (first | (with_reducible first | exact HB.out | apply Ky | apply Kj | apply Ks | refine Ki ?_ (IsS92.ge HI202.out) | refine Ki ?_ GE198.out | refine Ki ?_ GE220.out) | exact HB.out)⟩
 (try clear HO205)
 (try clear HO210)
 (try clear BK198)
 (try clear BK220)
 (try clear HI202)
 (try clear HB)
 generalize ((w16.setCell ⟨gb220, 0, none⟩ (.int .i64 t216)).setCell ⟨gb220, 1, none⟩ (.int .i64 t217)) = w20 at n0_ n1_ n2_ n3_ n4_ n5_ ⊢
 have HO205 := n0_
 have HO210 := n1_
 have BK198 := n2_
 have BK220 := n3_
 have HI202 := n4_
 have HB := n5_
 clear n0_ n1_ n2_ n3_ n4_ n5_
 replace HO205 := am (Kd.R_drew HO205.out)
 replace HO210 := am (Kd.R_drew HO210.out)
 replace BK198 := am (blk_drew BK198.out)
 replace BK220 := am (blk_drew BK220.out)
 replace HI202 := am (IsS92.drew HI202.out)
 replace HB := am (Ks HB.out)
 refine start_ (n := 18) (S := fun w' => w'.cell? ⟨gb220, 0, none⟩ = some (.int .i64 t216) ∧ w'.cell? ⟨gb220, 1, none⟩ = some (.int .i64 t217)) (ds := []) #[z,z,z,z,z,z,z,z,z,z,z,z,z,z,z,z,z,z] (by kernel_rfl) rfl rfl ⟨(Kk BK220.out 0).trans rfl, (Kk BK220.out 1).trans rfl⟩ (fun hHeld => ?_); refine with_tabW spec_DrawMayDo.tab6 spec_DrawMayDo.bits6 (fun HT_ HW_ => ?_)
 generalize w20.drew = w21 at HO205 HO210 BK198 BK220 HI202 HB hHeld ⊢
 refine pu 0 25 #[o,z,z,z,z,z,z,z,z,z,z,z,z,z,z,z,z,z] HT_ ?_
 refine pu 1 26 #[o,o,z,z,z,z,z,z,z,z,z,z,z,z,z,z,z,z] HT_ ?_
 refine pu 2 27 #[o,o,o,z,z,z,z,z,z,z,z,z,z,z,z,z,z,z] HT_ ?_
 refine pu 4 29 #[o,o,o,z,o,z,z,z,z,z,z,z,z,z,z,z,z,z] HT_ ?_
 refine pu 7 32 #[o,o,o,z,o,z,z,o,z,z,z,z,z,z,z,z,z,z] HT_ ?_
 refine pu 9 34 #[o,o,o,z,o,z,z,o,z,o,z,z,z,z,z,z,z,z] HT_ ?_
 refine take_ (i := 3) (N := some 28) (v := ?_) (a' := ?_) #[o,o,o,o,o,z,z,o,z,o,z,z,z,z,z,z,z,z] rfl rfl (take_ofW HT_.out HW_.out (by kernel_rfl)) (fun _ _ _ h => h) (Or.inl ⟨by rfl, ?_⟩) hHeld ?_ ?_
 rotate_left
 ·rintro w' ⟨s0, s1⟩
  go_simp
  with_reducible rfl
 rotate_left
 ·simp only [Act.put, qa, qb, qc, i64_w, i32_w]
  rfl
 refine one_ (i := 5) (N := some 30) #[o,o,o,o,o,o,z,o,z,o,z,z,z,z,z,z,z,z] rfl rfl (one_of HT_.out (by kernel_rfl)) (by decide) (fun K hK => ?_)
 refine gS Try.func33 #[.pointer (some ⟨g202, 0, none⟩), .int .i64 4] ?_
 with_reducible refine (spec_l1Below.calls g202 t199 t218 t219 4 t221 t222 t223 w _ ?side1 ?side2 A7.out).mono ?_
 (case side1 => exact iU NB202_198.out NB202_220.out HI202.out)
 (case side2 => repeat (first | (with_reducible first | exact HB.out | apply Ky | apply Kj | apply Ks | refine Ki ?_ (IsS92.ge HI202.out) | refine Ki ?_ GE198.out | refine Ki ?_ GE220.out) | exact HB.out))
 rintro e w22 ⟨rfl, hi, hb, hk⟩
 refine ⟨_, rfl, ?_⟩
 replace BK198 := am (Kv hk (bB BK198.out) NB198_202.out (by simp))
 replace HO205 := am (Kt (Kd.R_keep (IsS92.apart (show IsS92 w _ g202 t199 t218 t219 from (iU NB202_198.out NB202_220.out HI202.out)) (rB HO205.out) (by decide)) hk (fun _ h => h.2)) (fun _ h => h.1))
 replace HO210 := am (Kt (Kd.R_keep (IsS92.apart (show IsS92 w _ g202 t199 t218 t219 from (iU NB202_198.out NB202_220.out HI202.out)) (rB HO210.out) (by decide)) hk (fun _ h => h.2)) (fun _ h => h.1))
 replace BK220 := am (Kv hk (bB BK220.out) NB220_202.out (by simp))
 replace HB := am (hb)
 replace HI202 := am (hi)
 (try clear hb)
 (try clear hb2)
 (try clear hk)
 (try clear hi)
 refine hK.out _ _ ⟨(Kk BK220.out 0).trans rfl, (Kk BK220.out 1).trans rfl⟩ (fun hHeld => ?_)
 clear hK K
 refine norm_ (a' := ?_) ?_ ?_
 rotate_left
 ·show Act.put _ (some 30) _ = _
  simp only [Act.put, qa, qb, qc, i64_w, i32_w]
  rfl
 refine pu 6 31 #[o,o,o,o,o,o,o,o,z,o,z,z,z,z,z,z,z,z] HT_ ?_
 refine one_ (i := 8) (N := some 33) #[o,o,o,o,o,o,o,o,o,o,z,z,z,z,z,z,z,z] rfl rfl (one_of HT_.out (by kernel_rfl)) (by decide) (fun K hK => ?_)
 refine gS Try.func33 #[.pointer (some ⟨g202, 0, none⟩), .int .i64 18] ?_
 with_reducible refine (spec_l1Below.calls g202 t199 t222 t223 18 t224 t225 t226 w _ ?side1 ?side2 A8.out).mono ?_
 (case side1 => exact iU NB202_198.out NB202_220.out HI202.out)
 (case side2 => repeat (first | (with_reducible first | exact HB.out | apply Ky | apply Kj | apply Ks | refine Ki ?_ (IsS92.ge HI202.out) | refine Ki ?_ GE198.out | refine Ki ?_ GE220.out) | exact HB.out))
 rintro e w23 ⟨rfl, hi, hb, hk⟩
 refine ⟨_, rfl, ?_⟩
 replace BK198 := am (Kv hk (bB BK198.out) NB198_202.out (by simp))
 replace HO205 := am (Kt (Kd.R_keep (IsS92.apart (show IsS92 w _ g202 t199 t222 t223 from (iU NB202_198.out NB202_220.out HI202.out)) (rB HO205.out) (by decide)) hk (fun _ h => h.2)) (fun _ h => h.1))
 replace HO210 := am (Kt (Kd.R_keep (IsS92.apart (show IsS92 w _ g202 t199 t222 t223 from (iU NB202_198.out NB202_220.out HI202.out)) (rB HO210.out) (by decide)) hk (fun _ h => h.2)) (fun _ h => h.1))
 replace BK220 := am (Kv hk (bB BK220.out) NB220_202.out (by simp))
 replace HB := am (hb)
 replace HI202 := am (hi)
 (try clear hb)
 (try clear hb2)
 (try clear hk)
 (try clear hi)
 refine hK.out _ _ ⟨(Kk BK220.out 0).trans rfl, (Kk BK220.out 1).trans rfl⟩ (fun hHeld => ?_)
 clear hK K
 refine norm_ (a' := ?_) ?_ ?_
 rotate_left
 ·show Act.put _ (some 33) _ = _
  simp only [Act.put, qa, qb, qc, i64_w, i32_w]
  rfl
 refine one_ (i := 10) (N := some 35) #[o,o,o,o,o,o,o,o,o,o,o,z,z,z,z,z,z,z] rfl rfl (one_of HT_.out (by kernel_rfl)) (by decide) (fun K hK => ?_)
 refine gS Try.func35 #[.pointer (some ⟨g202, 0, none⟩), .int .i64 2] ?_
 with_reducible refine (spec_l1Once.calls g202 t199 t225 t226 2 t227 t228 t229 w _ ?side1 ?side2 A9.out).mono ?_
 (case side1 => exact iU NB202_198.out NB202_220.out HI202.out)
 (case side2 => repeat (first | (with_reducible first | exact HB.out | apply Ky | apply Kj | apply Ks | refine Ki ?_ (IsS92.ge HI202.out) | refine Ki ?_ GE198.out | refine Ki ?_ GE220.out) | exact HB.out))
 rintro e w24 ⟨rfl, hi, hb, hk⟩
 refine ⟨_, rfl, ?_⟩
 replace BK198 := am (Kv hk (bB BK198.out) NB198_202.out (by simp))
 replace HO205 := am (Kt (Kd.R_keep (IsS92.apart (show IsS92 w _ g202 t199 t225 t226 from (iU NB202_198.out NB202_220.out HI202.out)) (rB HO205.out) (by decide)) hk (fun _ h => h.2)) (fun _ h => h.1))
 replace HO210 := am (Kt (Kd.R_keep (IsS92.apart (show IsS92 w _ g202 t199 t225 t226 from (iU NB202_198.out NB202_220.out HI202.out)) (rB HO210.out) (by decide)) hk (fun _ h => h.2)) (fun _ h => h.1))
 replace BK220 := am (Kv hk (bB BK220.out) NB220_202.out (by simp))
 replace HB := am (hb)
 replace HI202 := am (hi)
 (try clear hb)
 (try clear hb2)
 (try clear hk)
 (try clear hi)
 refine hK.out _ _ ⟨(Kk BK220.out 0).trans rfl, (Kk BK220.out 1).trans rfl⟩ (fun hHeld => ?_)
 clear hK K
 refine norm_ (a' := ?_) ?_ ?_
 rotate_left
 ·show Act.put _ (some 35) _ = _
  simp only [Act.put, qa, qb, qc, i64_w, i32_w]
  rfl
 refine pu 11 2 #[o,o,o,o,o,o,o,o,o,o,o,o,z,z,z,z,z,z] HT_ ?_
 refine pu 12 3 #[o,o,o,o,o,o,o,o,o,o,o,o,o,z,z,z,z,z] HT_ ?_
 refine pu 13 4 #[o,o,o,o,o,o,o,o,o,o,o,o,o,o,z,z,z,z] HT_ ?_
 refine one_ (i := 14) (N := none) #[o,o,o,o,o,o,o,o,o,o,o,o,o,o,o,z,z,z] rfl rfl (one_of HT_.out (by kernel_rfl)) (by decide) (fun K hK => ?_)
 have hs25 : w24.cell? ⟨gb198, 0, none⟩ = some (.int .i64 0) := (Kk BK198.out 0).trans rfl
 have hfs25 := Kr BK198.out 0
 have hns25_1 := NB220_198.out
 have hms25_1 := NB198_220.out
 have hs26 : w24.cell? ⟨gb198, 1, none⟩ = some (.int .i64 0) := (Kk BK198.out 1).trans rfl
 have hfs26 := Kr BK198.out 1
 have hns26_1 := NB220_198.out
 have hms26_1 := NB198_220.out
 refine skip_ (w1 := ?_) (by rfl) rfl ?_ ?_
 rotate_left
 ·go_simp
  rfl
 refine hK.out _ _ ⟨((Kn (p := ⟨gb198, _, none⟩) NB220_198.out _).trans (((Kn (p := ⟨gb198, _, none⟩) NB220_198.out _).trans (hHeld.1)))), ((Kn (p := ⟨gb198, _, none⟩) NB220_198.out _).trans (((Kn (p := ⟨gb198, _, none⟩) NB220_198.out _).trans (hHeld.2))))⟩ (fun hHeld => ?_)
 clear hK K
 refine pu 15 6 #[o,o,o,o,o,o,o,o,o,o,o,o,o,o,o,o,z,z] HT_ ?_
 refine pu 16 7 #[o,o,o,o,o,o,o,o,o,o,o,o,o,o,o,o,o,z] HT_ ?_
 refine pu 17 8 #[o,o,o,o,o,o,o,o,o,o,o,o,o,o,o,o,o,o] HT_ ?_
 refine done_ (done_of HT_.out (by kernel_rfl)) ?_
 try go_wp2
 refine bodyPost_ret (results_list (rs := [.tmp 2, .tmp 3, .tmp 4, .cell 5 27, .tmp 6, .tmp 7, .tmp 8]) rfl (by simp) (.tmp (.tmp (.tmp (.cell gb198 27 #[.int .i64 t216, .int .i64 t217] (0, 0) _ rfl (by refine bB ?_; refine Kg (cs := #[.int .i64 t216, .int .i64 0]) ?_ 1 _ rfl; refine bB ?_; refine Kg (cs := #[.int .i64 0, .int .i64 0]) ?_ 0 _ rfl; refine bB ?_; exact BK198.out) Try.underlying27 rfl (by kernel_rfl) (.tmp (.tmp (.tmp .nil)))))))) rfl ?_
 exact ⟨_, _, by first | rfl | (simp [errW_none, errW_some] <;> rfl) | (simp [*, errW_none, errW_some] <;> rfl), by (with_reducible repeat (first | apply Kd.R_alloc | apply Kd.R_drewN | apply Kd.R_drew)); exact Kt (Kd.R_far (p := ⟨gb198, 1, none⟩) (Kd.R_far (p := ⟨gb198, 0, none⟩) (Kd.R_types HO205.out BK198.out (by decide)) (fun _ hk => hk.2) (.int .i64 t216)) (fun _ hk => hk.2) (.int .i64 t217)) (fun _ hk => trivial), by (with_reducible repeat (first | apply Kd.R_alloc | apply Kd.R_drewN | apply Kd.R_drew)); exact Kt (Kd.R_far (p := ⟨gb198, 1, none⟩) (Kd.R_far (p := ⟨gb198, 0, none⟩) (Kd.R_types HO210.out BK198.out (by decide)) (fun _ hk => hk.2) (.int .i64 t216)) (fun _ hk => hk.2) (.int .i64 t217)) (fun _ hk => trivial), by repeat (first | (with_reducible first | exact HB.out | apply Ky | apply Kj | apply Ks | refine Ki ?_ (IsS92.ge HI202.out) | refine Ki ?_ GE198.out | refine Ki ?_ GE220.out) | exact HB.out)⟩

end Go.Proofs.Ytilneejgliglhaa.QN
