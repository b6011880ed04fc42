/- Go functions as Lean functions, each with its walk; printed by a program of this session (a scratch copy of print.py that follows nested field addresses and tells a law for the answer true). -/
import Derived.Test.YtilneejgliglhaaQSx0
import Derived.Test.YtilneejgliglhaaQSx26
import Derived.Test.YtilneejgliglhaaQSx32
namespace Go.Proofs.Ytilneejgliglhaa.QS
open Go.RowKit Go.Proofs.YtilneejgliglhaaW.PrintWords Go.Proofs.YtilneejgliglhaaW.PrintLast Go.Proofs.YtilneejgliglhaaW.PrintMore Go.Proofs.Ytilneejgliglhaa.Short
attribute [local go_sem] max2_int min2_int max_two min_two max_three min_three max_four min_four   -- for this text's walks alone
set_option linter.unusedVariables false
set_option linter.unusedSimpArgs false

/-! ### impl_NeverChosen: function 25 -/
mutual
def impl_NeverChosen.l0 : Nat → List (S84) → List Bool → Int → Option (List Int)
 | 0, _, _, _ => none
 | k + 1, x0, x3, x4 => if x4 ≤ 9 then (impl_NeverChosen.l1 k x0 x3 x4 0) else (impl_NeverChosen.l3 k x3 (([] : List Int)) x0 (x0.length : Int) 0)
def impl_NeverChosen.l1 : Nat → List (S84) → List Bool → Int → Int → Option (List Int)
 | 0, _, _, _, _ => none
 | k + 1, x0, x3, x4, x18 => if x18 < 10 then (impl_NeverChosen.l2 k x0 x3 x4 x18 1 x18) else (impl_NeverChosen.l0 k x0 x3 (wrap64 (x4 + 1)))
def impl_NeverChosen.l2 : Nat → List (S84) → List Bool → Int → Int → Int → Int → Option (List Int)
 | 0, _, _, _, _, _, _ => none
 | k + 1, x0, x3, x4, x5, x6, x18 => if x6 ≤ 4 then ((impl_DecideRule.f k x0 x4 x5 x6).bind fun t392 => (if t392 ≥ 0 then (if 0 ≤ t392 then (if t392 < (x3.length : Int) then (impl_NeverChosen.l2 k x0 (x3.set (t392 : Int).toNat true) x4 x5 (wrap64 (x6 + 1)) x18) else (none)) else (none)) else (impl_NeverChosen.l2 k x0 x3 x4 x5 (wrap64 (x6 + 1)) x18))) else (impl_NeverChosen.l1 k x0 x3 x4 (wrap64 (x18 + 1)))
def impl_NeverChosen.l3 : Nat → List Bool → List Int → List (S84) → Int → Int → Option (List Int)
 | 0, _, _, _, _, _ => none
 | k + 1, x3, x8, x39, x40, x41 => if x41 < x40 then (if 0 ≤ x41 then (if x41 < (x39.length : Int) then ((impl_IsRule.f k ((rd_T84 x39 x41).f0) ((rd_T84 x39 x41).f1) ((rd_T84 x39 x41).f2.f0) ((rd_T84 x39 x41).f2.f1) ((rd_T84 x39 x41).f3) ((rd_T84 x39 x41).f4) ((rd_T84 x39 x41).f5.f0) ((rd_T84 x39 x41).f5.f1)).bind fun t399 => (if t399 = true then (if x41 < (x3.length : Int) then (if rdOf false x3 x41 = true then (impl_NeverChosen.l3 k x3 x8 x39 x40 (wrap64 (x41 + 1))) else (if x8.length < 17592186044416 then (impl_NeverChosen.l3 k x3 (x8 ++ [x41]) x39 x40 (wrap64 (x41 + 1))) else (none))) else (none)) else (impl_NeverChosen.l3 k x3 x8 x39 x40 (wrap64 (x41 + 1))))) else (none)) else (none)) else (some x8)
end
def impl_NeverChosen.f (k : Nat) (l0 : List (S84)) : Option (List Int) := if 0 ≤ (l0.length : Int) then (if ((l0.length : Int) : Int).toNat ≤ 281474976710656 then (impl_NeverChosen.l0 k l0 (List.replicate ((l0.length : Int) : Int).toNat false) 1) else (none)) else (none)
set_option maxHeartbeats 8000000 in
set_option maxRecDepth 100000 in
theorem impl_NeverChosen.calls (k : Nat) (A0 : Option Addr) (c0 : Nat) (l0 : List (S84)) (r : List Int) (w : World) (hr0 : Kd.C k84 w A0 l0.length l0) (hc0 : l0.length ≤ c0) (h : impl_NeverChosen.f k l0 = some r) :
  Calls Try.prog 25 #[.slice A0 l0.length c0] w fun e w' => ∃ v0_ : Value, e = .returned (v0_) ∧ Kd.R (Kd.int .i64) 3 w' w.heap.size (fun _ => True) v0_ r ∧ Below w.heap.size w w' := by
 have hu27 := Try.underlying27
 have hu50 := Try.underlying50
 have hu84 := Try.underlying84
 have HR0 := Aside0.mk hr0
 have HC0 := Aside0.mk hc0
 clear hr0 hc0
 have HB := am (Below.refl w.heap.size w)
 have H : (if 0 ≤ (l0.length : Int) then (if ((l0.length : Int) : Int).toNat ≤ 281474976710656 then (impl_NeverChosen.l0 k l0 (List.replicate ((l0.length : Int) : Int).toNat false) 1) else (none)) else (none)) = some r := h
 clear h
 by_cases c2 : 0 ≤ (l0.length : Int)
 ·rw [if_pos c2] at H
  have c2b0 := eq_true c2
  have c2b1 : decide (0 ≤ (l0.length : Int)) = true := decide_eq_true c2
  clear c2
  by_cases c3 : ((l0.length : Int) : Int).toNat ≤ 281474976710656
  ·rw [if_pos c3] at H
   have c3b0 := eq_true c3
   have c3b1 : decide (((l0.length : Int) : Int).toNat ≤ 281474976710656) = true := decide_eq_true c3
   clear c3
   obtain ⟨y389, hy389⟩ : ∃ y_ : List Bool, y_ = (List.replicate ((l0.length : Int) : Int).toNat false) := ⟨_, rfl⟩
   replace H : (impl_NeverChosen.l0 k l0 y389 1) = some r := by first | (rw [hy389]; with_reducible exact H) | (have H2_ := (Option.bind_some _ _).symm.trans H; rw [hy389]; with_reducible exact H2_) | (have H2_ := (Option.bind_some _ _).symm.trans H; with_reducible exact H2_) | with_reducible exact H | (rw [hy389]; exact H) | exact H
   have Ny389 := Aside0.mk hy389
   clear hy389
   have H' := Aside0.mk H
   clear H
   go_enter Try.func25, Try.ntmps25
   go_wp2_with (first | ((with_reducible refine gate_dst (N := 13) rfl ?_); refine Kd.R_make Kd.bool _ 4 rfl (N := 13) rfl 89 _ _ rfl (l0.length : Int) rfl rfl Try.underlying89 (.bool false) 1 info4 rfl (by decide) (by omega) false (ok := fun _ => True) (okp := fun _ => True) rfl (fun _ hk => hk) trivial (of_decide_eq_true (by first | (with_reducible assumption) | assumption)) (Nat.le_trans (Nat.mul_le_mul_right _ (of_decide_eq_true (by first | (with_reducible assumption) | assumption) : (l0.length : Int).toNat ≤ 281474976710656)) (by omega)) (Below.refl _ _) (Nat.le_refl _) ?_; intro v390 w4 ho5 hb hg_ hnew_; clear hg_ hnew_; (first | rw [← Ny389.out] at ho5 | (simp only [Int.reduceToNat] at ho5; rw [← Ny389.out] at ho5)); have n0_ := am (Kd.R_lower ho5 (below_size (sB HB.out))); have n1_ := am (below_step (sB HB.out) hb); clear HB; have HO391 := n0_; have HB := n1_; clear n0_ n1_; clear hb ho5))
   go_loopg [4] k (fun kq v4 w' => ∃ (x3_1 : List Bool) (x4_1 : Int), v4 = .int .i64 x4_1 ∧ Aside0 (impl_NeverChosen.l0 kq l0 x3_1 x4_1 = some r) ∧ Aside0 (kq ≤ k) ∧ Aside0 (Kd.R Kd.bool 4 w' w.heap.size (fun _ => True) v390 x3_1) ∧ Aside0 (Below w.heap.size w w'))
   case atStart => exact ⟨(y389), (1), (by first | rfl | (simp; done) | (simp [*]; done)), H', ⟨Nat.le_refl _⟩, ⟨by (with_reducible repeat (first | apply Kd.R_alloc | apply Kd.R_drewN | apply Kd.R_drew)); exact HO391.out⟩, ⟨sB HB.out⟩⟩
   case round =>
    clear H'
    try clear c2
    try clear c2b0
    try clear c2b1
    try clear p2
    try clear c3
    try clear c3b0
    try clear c3b1
    obtain ⟨x3_1, x4_1, rfl, HA, HK1, HO_3, HB⟩ := hrel
    cases gk with
    | zero => exact absurd HA.out (by simp [impl_NeverChosen.l0])
    | succ k1 =>
     have H := HA.out
     clear HA
     simp only [impl_NeverChosen.l0] at H
     by_cases c6 : x4_1 ≤ 9
     ·rw [if_pos c6] at H
      have c6b0 : decide (x4_1 ≤ 9) = true := decide_eq_true c6
      clear c6
      have H' := Aside0.mk H
      clear H
      go_wp2
      go_loopg [18] k1 (fun kq v18 w' => ∃ (x3_2 : List Bool) (x18_2 : Int), v18 = .int .i64 x18_2 ∧ Aside0 (impl_NeverChosen.l1 kq l0 x3_2 x4_1 x18_2 = some r) ∧ Aside0 (kq ≤ k1) ∧ Aside0 (Kd.R Kd.bool 4 w' w.heap.size (fun _ => True) v390 x3_2) ∧ Aside0 (Below w.heap.size w w'))
      case atStart => exact ⟨(x3_1), (0), (by first | rfl | (simp; done) | (simp [*]; done)), H', ⟨Nat.le_refl _⟩, ⟨by (with_reducible repeat (first | apply Kd.R_alloc | apply Kd.R_drewN | apply Kd.R_drew)); exact HO_3.out⟩, ⟨sB HB.out⟩⟩
      case round =>
       clear H'
       try clear c2
       try clear c2b0
       try clear c2b1
       try clear p2
       try clear c3
       try clear c3b0
       try clear c3b1
       try clear c6
       try clear c6b0
       try clear p2
       obtain ⟨x3_2, x18_2, rfl, HA, HK2, HO_3, HB⟩ := hrel
       cases gk with
       | zero => exact absurd HA.out (by simp [impl_NeverChosen.l1])
       | succ k2 =>
        have H := HA.out
        clear HA
        simp only [impl_NeverChosen.l1] at H
        by_cases c7 : x18_2 < 10
        ·rw [if_pos c7] at H
         have c7b0 : decide (x18_2 < 10) = true := decide_eq_true c7
         clear c7
         have H' := Aside0.mk H
         clear H
         go_wp2
         go_loopg [6] k2 (fun kq v6 w' => ∃ (x3_3 : List Bool) (x6_3 : Int), v6 = .int .i64 x6_3 ∧ Aside0 (impl_NeverChosen.l2 kq l0 x3_3 x4_1 x18_2 x6_3 x18_2 = some r) ∧ Aside0 (kq ≤ k2) ∧ Aside0 (Kd.R Kd.bool 4 w' w.heap.size (fun _ => True) v390 x3_3) ∧ Aside0 (Below w.heap.size w w'))
         case atStart => exact ⟨(x3_2), (1), (by first | rfl | (simp; done) | (simp [*]; done)), H', ⟨Nat.le_refl _⟩, ⟨by (with_reducible repeat (first | apply Kd.R_alloc | apply Kd.R_drewN | apply Kd.R_drew)); exact HO_3.out⟩, ⟨sB HB.out⟩⟩
         case round =>
          clear H'
          try clear c2
          try clear c2b0
          try clear c2b1
          try clear p2
          try clear c3
          try clear c3b0
          try clear c3b1
          try clear c6
          try clear c6b0
          try clear c7
          try clear c7b0
          try clear p2
          obtain ⟨x3_3, x6_3, rfl, HA, HK3, HO_3, HB⟩ := hrel
          cases gk with
          | zero => exact absurd HA.out (by simp [impl_NeverChosen.l2])
          | succ k3 =>
           have H := HA.out
           clear HA
           simp only [impl_NeverChosen.l2] at H
           by_cases c8 : x6_3 ≤ 4
           ·rw [if_pos c8] at H
            have c8b0 : decide (x6_3 ≤ 4) = true := decide_eq_true c8
            clear c8
            replace H := Option.bind_eq_some_iff.mp H
            obtain ⟨t392, A90, H⟩ := H
            replace H : (if t392 ≥ 0 then (if 0 ≤ t392 then (if t392 < (x3_3.length : Int) then (impl_NeverChosen.l2 k3 l0 (x3_3.set (t392 : Int).toNat true) x4_1 x18_2 (wrap64 (x6_3 + 1)) x18_2) else (none)) else (none)) else (impl_NeverChosen.l2 k3 l0 x3_3 x4_1 x18_2 (wrap64 (x6_3 + 1)) x18_2)) = some r := H
            have A9 := Aside0.mk A90
            clear A90
            by_cases c10 : t392 ≥ 0
            ·rw [if_pos c10] at H
             have c10b0 : decide (0 ≤ t392) = true := decide_eq_true c10
             clear c10
             by_cases c11 : 0 ≤ t392
             ·rw [if_pos c11] at H
              have c11b0 : decide (0 ≤ t392) = true := decide_eq_true c11
              clear c11
              by_cases c12 : t392 < (x3_3.length : Int)
              ·rw [if_pos c12] at H
               have c12b0 : decide (t392 < (x3_3.length : Int)) = true := decide_eq_true c12
               clear c12
               obtain ⟨y393, hy393⟩ : ∃ y_ : List Bool, y_ = (x3_3.set (t392 : Int).toNat true) := ⟨_, rfl⟩
               replace H : (impl_NeverChosen.l2 k3 l0 y393 x4_1 x18_2 (wrap64 (x6_3 + 1)) x18_2) = some r := by first | (rw [hy393]; with_reducible exact H) | (have H2_ := (Option.bind_some _ _).symm.trans H; rw [hy393]; with_reducible exact H2_) | (have H2_ := (Option.bind_some _ _).symm.trans H; with_reducible exact H2_) | with_reducible exact H | (rw [hy393]; exact H) | exact H
               have Ny393 := Aside0.mk hy393
               clear hy393
               have H' := Aside0.mk H
               clear H
               go_wp2_with (first | ((with_reducible refine gate_callee (f := 21) rfl ?_); refine goesL_ (some 31) rfl rfl Try.func21 (by kernel_rfl) rfl #[.slice A0 l0.length c0, .agg #[.int .i64 x4_1, .int .i64 x18_2, .int .i64 x6_3]] rfl (by (try simp only [List.map_toArray, List.map_cons, List.map_nil]); first | done | rfl | (simp only [List.length_drop, List.length_take]; rfl)) ?_; (with_reducible refine (impl_DecideRule.calls k3 _ _ l0 x4_1 x18_2 x6_3 t392 _ ?side1 ?side2 A9.out).mono ?_); (case side1 => exact cB ((Kd.C_below HR0.out HB.out))); (case side2 => exact HC0.out); rintro e w14 ⟨rfl, hb⟩; refine ⟨_, rfl, ?_⟩; replace HO_3 := am (Kd.R_below (rB HO_3.out) hb); replace HB := am (below_step (sB HB.out) hb); (try clear hb); (try clear hb2); (try clear hk); (try clear hi); have p13 : 0 ≤ (t392 : Int) := of_decide_eq_true (by first | (with_reducible assumption) | assumption); have q13 : (t392 : Int) < ((x3_3.length : Int) : Int) := of_decide_eq_true (by first | (with_reducible assumption) | assumption); obtain ⟨go13, co13, eo13, gb13, gl13, cl13, HG13⟩ := Kd.R_form HO_3.out (by omega); (first | cases eo13 | (injection eo13 with ea_ en_ ec_; (first | subst ea_ | (injection ea_ with ea_; subst ea_)); subst ec_; clear en_)); have GB13 := Aside0.mk gb13; have GG13 := Aside0.mk HG13; clear gb13 gl13 HG13; obtain ⟨hx13_0, hf13_0⟩ := Kd.R_celln false HO_3.out (t392 : Int) p13 q13; replace p13 := eq_true p13; replace q13 := eq_true q13; obtain ⟨hy15_, hz15_⟩ := Kd.R_celln false HO_3.out (t392 : Int) (of_decide_eq_true (by first | (with_reducible assumption) | assumption)) (of_decide_eq_true (by first | (with_reducible assumption) | assumption)); have HP15 := Kd.R_putg HO_3.out (t392 : Int) true) | ((with_reducible refine gate_store (t := 4) (p := 36) rfl ?_); refine store_event (t := 4) (p := 36) (v := ?vo_w16) (w1 := (w14.setCell ⟨go13, (t392 : Int).toNat, none⟩ (.bool true))) ?hg ?ho ?hn ?hr ?_; (case ho => rfl); (case hg => rfl); (case hn => rfl); (case hr => first | (go_simp; done) | (go_simp; rfl)); intro w16 hw; have hg : w14.grownBy w16 (some go13) := (by rw [hw]; exact HP15.2); have hp_ : Kd.R Kd.bool 4 w16 w.heap.size (fun _ => True) (.slice (some ⟨go13, 0, none⟩) x3_3.length co13) y393 := (by rw [hw, Ny393.out]; exact HP15.1); clear HP15; replace HO_3 := am (hp_); replace HB := am ((by rw [hw]; exact below_set (HB.out) GB13.out : Below w.heap.size w w16)); clear hg hw hp_))
               go_roundg k3
               case measure => have := HK1.out; have := HK2.out; have := HK3.out; omega
               case rel => exact ⟨(y393), (wrap64 (x6_3 + 1)), (by first | rfl | (simp; done) | (simp [*]; done)), H', ⟨by have := HK1.out; have := HK2.out; have := HK3.out; omega⟩, ⟨by (with_reducible repeat (first | apply Kd.R_alloc | apply Kd.R_drewN | apply Kd.R_drew)); exact HO_3.out⟩, ⟨sB HB.out⟩⟩
              ·rw [if_neg c12] at H
               exact absurd H (by simp)
             ·rw [if_neg c11] at H
              exact absurd H (by simp)
            ·rw [if_neg c10] at H
             have c10b0 : decide (0 ≤ t392) = false := decide_eq_false c10
             clear c10
             have H' := Aside0.mk H
             clear H
             go_wp2_with (first | ((with_reducible refine gate_callee (f := 21) rfl ?_); refine goesL_ (some 31) rfl rfl Try.func21 (by kernel_rfl) rfl #[.slice A0 l0.length c0, .agg #[.int .i64 x4_1, .int .i64 x18_2, .int .i64 x6_3]] rfl (by (try simp only [List.map_toArray, List.map_cons, List.map_nil]); first | done | rfl | (simp only [List.length_drop, List.length_take]; rfl)) ?_; (with_reducible refine (impl_DecideRule.calls k3 _ _ l0 x4_1 x18_2 x6_3 t392 _ ?side1 ?side2 A9.out).mono ?_); (case side1 => exact cB ((Kd.C_below HR0.out HB.out))); (case side2 => exact HC0.out); rintro e w17 ⟨rfl, hb⟩; refine ⟨_, rfl, ?_⟩; replace HO_3 := am (Kd.R_below (rB HO_3.out) hb); replace HB := am (below_step (sB HB.out) hb); (try clear hb); (try clear hb2); (try clear hk); (try clear hi)))
             go_roundg k3
             case measure => have := HK1.out; have := HK2.out; have := HK3.out; omega
             case rel => exact ⟨(x3_3), (wrap64 (x6_3 + 1)), (by first | rfl | (simp; done) | (simp [*]; done)), H', ⟨by have := HK1.out; have := HK2.out; have := HK3.out; omega⟩, ⟨by (with_reducible repeat (first | apply Kd.R_alloc | apply Kd.R_drewN | apply Kd.R_drew)); exact HO_3.out⟩, ⟨sB HB.out⟩⟩
           ·rw [if_neg c8] at H
            have c8b0 : decide (x6_3 ≤ 4) = false := decide_eq_false c8
            clear c8
            have H' := Aside0.mk H
            clear H
            go_wp2
            go_roundg k3
            case measure => have := HK1.out; have := HK2.out; have := HK3.out; omega
            case rel => exact ⟨(x3_3), (wrap64 (x18_2 + 1)), (by first | rfl | (simp; done) | (simp [*]; done)), H', ⟨by have := HK1.out; have := HK2.out; have := HK3.out; omega⟩, ⟨by (with_reducible repeat (first | apply Kd.R_alloc | apply Kd.R_drewN | apply Kd.R_drew)); exact HO_3.out⟩, ⟨sB HB.out⟩⟩
        ·rw [if_neg c7] at H
         have c7b0 : decide (x18_2 < 10) = false := decide_eq_false c7
         clear c7
         have H' := Aside0.mk H
         clear H
         go_wp2
         go_roundg k2
         case measure => have := HK1.out; have := HK2.out; omega
         case rel => exact ⟨(x3_2), (wrap64 (x4_1 + 1)), (by first | rfl | (simp; done) | (simp [*]; done)), H', ⟨by have := HK1.out; have := HK2.out; omega⟩, ⟨by (with_reducible repeat (first | apply Kd.R_alloc | apply Kd.R_drewN | apply Kd.R_drew)); exact HO_3.out⟩, ⟨sB HB.out⟩⟩
     ·rw [if_neg c6] at H
      have c6b0 : decide (x4_1 ≤ 9) = false := decide_eq_false c6
      clear c6
      obtain ⟨y394, hy394⟩ : ∃ y_ : List Int, y_ = (([] : List Int)) := ⟨_, rfl⟩
      replace H : (impl_NeverChosen.l3 k1 x3_1 y394 l0 (l0.length : Int) 0) = some r := by first | (rw [hy394]; with_reducible exact H) | (have H2_ := (Option.bind_some _ _).symm.trans H; rw [hy394]; with_reducible exact H2_) | (have H2_ := (Option.bind_some _ _).symm.trans H; with_reducible exact H2_) | with_reducible exact H | (rw [hy394]; exact H) | exact H
      have Ny394 := Aside0.mk hy394
      clear hy394
      have H' := Aside0.mk H
      clear H
      go_wp2_with (first | ((with_reducible refine gate_dst (N := 38) rfl ?_); refine Kd.R_lit (Kd.int .i64) _ 3 ?hg (N := 38) ?hd (xs := ([] : List Int)) (inner := []) (ok := fun _ => True) (okp := fun _ => True) ?hr ?hp (fun _ hk => hk) trivial (Below.refl _ _) (Nat.le_refl _) (by simp) ?_; (case hd => rfl); (case hg => rfl); (case hr => first | (go_simp; done) | (go_simp; rfl)); (case hp => exact (Reps.none _ _)); intro v395 w18 ho19 hb hg_ hnew_; clear hg_ hnew_; (first | rw [← Ny394.out] at ho19 | (simp only [Int.reduceToNat] at ho19; rw [← Ny394.out] at ho19)); have n0_ := am (Kd.R_below (rB HO_3.out) hb); have n1_ := am (Kd.R_lower ho19 (below_size (sB HB.out))); have n2_ := am (below_step (sB HB.out) hb); clear HO_3; clear HB; have HO_3 := n0_; have HO396 := n1_; have HB := n2_; clear n0_ n1_ n2_; clear hb ho19))
      go_loopg [8, 41] k1 (fun kq v8 v41 w' => ∃ (x8_2 : List Int) (x41_2 : Int), v41 = .int .i64 x41_2 ∧ Aside0 (impl_NeverChosen.l3 kq x3_1 x8_2 l0 (l0.length : Int) x41_2 = some r) ∧ Aside0 (kq ≤ k1) ∧ Aside0 (Kd.R Kd.bool 4 w' w.heap.size (fun _ => True) v390 x3_1) ∧ Aside0 (Kd.R (Kd.int .i64) 3 w' w.heap.size (fun _ => True) v8 x8_2) ∧ Aside0 (Below w.heap.size w w'))
      case atStart => exact ⟨(y394), (0), (by first | rfl | (simp; done) | (simp [*]; done)), H', ⟨Nat.le_refl _⟩, ⟨by (with_reducible repeat (first | apply Kd.R_alloc | apply Kd.R_drewN | apply Kd.R_drew)); exact HO_3.out⟩, ⟨by (with_reducible repeat (first | apply Kd.R_alloc | apply Kd.R_drewN | apply Kd.R_drew)); exact HO396.out⟩, ⟨sB HB.out⟩⟩
      case round =>
       clear H'
       try clear c1
       try clear p1
       try clear q1
       try clear hx1
       try clear hf1
       try clear c2
       try clear c2b0
       try clear c2b1
       try clear p2
       try clear c3
       try clear c3b0
       try clear c3b1
       try clear c6
       try clear c6b0
       try clear p6
       try clear c7
       try clear c7b0
       try clear c8
       try clear c8b0
       try clear c10
       try clear c10b0
       try clear c11
       try clear c11b0
       try clear c12
       try clear c12b0
       try clear p13
       try clear q13
       try clear hx13
       try clear hf13
       try clear hx13_0
       try clear p13
       try clear p2
       try clear q13
       obtain ⟨x8_2, x41_2, rfl, HA, HK2, HO_3, HO_8, HB⟩ := hrel
       cases gk with
       | zero => exact absurd HA.out (by simp [impl_NeverChosen.l3])
       | succ k2 =>
        have H := HA.out
        clear HA
        simp only [impl_NeverChosen.l3] at H
        by_cases c20 : x41_2 < (l0.length : Int)
        ·rw [if_pos c20] at H
         have c20b0 : decide (x41_2 < (l0.length : Int)) = true := decide_eq_true c20
         clear c20
         by_cases c21 : 0 ≤ x41_2
         ·rw [if_pos c21] at H
          have c21b0 : decide (0 ≤ x41_2) = true := decide_eq_true c21
          clear c21
          by_cases c22 : x41_2 < (l0.length : Int)
          ·rw [if_pos c22] at H
           have c22b0 : decide (x41_2 < (l0.length : Int)) = true := decide_eq_true c22
           clear c22
           replace H := Option.bind_eq_some_iff.mp H
           obtain ⟨t399, A230, H⟩ := H
           replace H : (if t399 = true then (if x41_2 < (x3_1.length : Int) then (if rdOf false x3_1 x41_2 = true then (impl_NeverChosen.l3 k2 x3_1 x8_2 l0 (l0.length : Int) (wrap64 (x41_2 + 1))) else (if x8_2.length < 17592186044416 then (impl_NeverChosen.l3 k2 x3_1 (x8_2 ++ [x41_2]) l0 (l0.length : Int) (wrap64 (x41_2 + 1))) else (none))) else (none)) else (impl_NeverChosen.l3 k2 x3_1 x8_2 l0 (l0.length : Int) (wrap64 (x41_2 + 1)))) = some r := H
           have A23 := Aside0.mk A230
           clear A230
           by_cases c24 : t399 = true
           ·subst c24
            have H1 : (if x41_2 < (x3_1.length : Int) then (if rdOf false x3_1 x41_2 = true then (impl_NeverChosen.l3 k2 x3_1 x8_2 l0 (l0.length : Int) (wrap64 (x41_2 + 1))) else (if x8_2.length < 17592186044416 then (impl_NeverChosen.l3 k2 x3_1 (x8_2 ++ [x41_2]) l0 (l0.length : Int) (wrap64 (x41_2 + 1))) else (none))) else (none)) = some r := by rw [if_pos rfl] at H; exact H
            clear H
            have H := H1
            clear H1
            by_cases c25 : x41_2 < (x3_1.length : Int)
            ·rw [if_pos c25] at H
             have c25b0 : decide (x41_2 < (x3_1.length : Int)) = true := decide_eq_true c25
             clear c25
             obtain ⟨bq26, hbq26⟩ : ∃ b_ : Bool, b_ = (rdOf false x3_1 x41_2) := ⟨_, rfl⟩
             replace H : (if bq26 = true then (impl_NeverChosen.l3 k2 x3_1 x8_2 l0 (l0.length : Int) (wrap64 (x41_2 + 1))) else (if x8_2.length < 17592186044416 then (impl_NeverChosen.l3 k2 x3_1 (x8_2 ++ [x41_2]) l0 (l0.length : Int) (wrap64 (x41_2 + 1))) else (none))) = some r := by rw [← hbq26] at H; exact H
             have Nbq26 := Aside0.mk hbq26
             clear hbq26
             by_cases c27 : bq26 = true
             ·subst c27
              have H1 : (impl_NeverChosen.l3 k2 x3_1 x8_2 l0 (l0.length : Int) (wrap64 (x41_2 + 1))) = some r := by rw [if_pos rfl] at H; exact H
              clear H
              have H := H1
              clear H1
              have H' := Aside0.mk H
              clear H
              have p397 : 0 ≤ (x41_2 : Int) := of_decide_eq_true (by first | (with_reducible assumption) | assumption)
              have q397 : x41_2 < (l0.length : Int) := of_decide_eq_true (by first | (with_reducible assumption) | assumption)
              obtain ⟨ad397, e397, hx397_0, hx397_1, hx397_2, hx397_3, hx397_4, hx397_5, hx397_6, hx397_7⟩ := at_T84 HR0.out x41_2 p397 q397
              cases e397
              replace hx397_0 := hc_ HB hx397_0
              replace hx397_1 := hc_ HB hx397_1
              replace hx397_2 := hc_ HB hx397_2
              replace hx397_3 := hc_ HB hx397_3
              replace hx397_4 := hc_ HB hx397_4
              replace hx397_5 := hc_ HB hx397_5
              replace hx397_6 := hc_ HB hx397_6
              replace hx397_7 := hc_ HB hx397_7
              replace p397 := eq_true p397
              replace q397 := eq_true q397
              go_wp2_with (first | ((with_reducible refine gate_dst (N := 10) rfl ?_); refine box_event ?hg (N := 10) ?hd (cs := #[.int .i64 0, .int .i64 0, .int .i64 0, .int .i64 0, .int .i64 0, .int .i64 0, .int .i64 0, .int .i64 0]) (t := 84) ?hr ?_; (case hd => rfl); (case hg => rfl); (case hr => first | (go_simp; done) | (go_simp; rfl)); intro gb398 hg w28 hbox hb; have n0_ := am (Kd.R_below (rB HO_3.out) hb); have n1_ := am (Kd.R_below (rB HO_8.out) hb); have q_ := hbx_ (sB HB.out) hg hb; have n2_ := q_.1; have n3_ := am (hbox); have n4_ := q_.2; have n5_ := n4_; clear HO_3; clear HO_8; clear HB; have HO_3 := n0_; have HO_8 := n1_; have HB := n2_; have BK398 := n3_; have GW398 := n4_; have GE398 := n5_; clear n0_ n1_ n2_ n3_ n4_ n5_; clear hb hbox hg; obtain ⟨hcz29_0, hcz29_1, hcz29_2, hcz29_3, hcz29_4, hcz29_5, hcz29_6, hcz29_7, hfz29_0, hfz29_1, hfz29_2, hfz29_3, hfz29_4, hfz29_5, hfz29_6, hfz29_7⟩ := blk8 BK398.out) | ((with_reducible refine gate_callee (f := 56) rfl ?_); refine goesL_ (some 47) rfl rfl Try.func56 (by kernel_rfl) rfl #[.agg #[.int .i64 ((rd_T84 l0 x41_2).f0), .int .i64 ((rd_T84 l0 x41_2).f1), .int .i64 ((rd_T84 l0 x41_2).f2.f0), .int .i64 ((rd_T84 l0 x41_2).f2.f1), .int .i64 ((rd_T84 l0 x41_2).f3), .int .i64 ((rd_T84 l0 x41_2).f4), .int .i64 ((rd_T84 l0 x41_2).f5.f0), .int .i64 ((rd_T84 l0 x41_2).f5.f1)]] rfl (by (try simp only [List.map_toArray, List.map_cons, List.map_nil]); first | done | rfl | (simp only [List.length_drop, List.length_take]; rfl)) ?_; (with_reducible refine (impl_IsRule.calls k2 ((rd_T84 l0 x41_2).f0) ((rd_T84 l0 x41_2).f1) ((rd_T84 l0 x41_2).f2.f0) ((rd_T84 l0 x41_2).f2.f1) ((rd_T84 l0 x41_2).f3) ((rd_T84 l0 x41_2).f4) ((rd_T84 l0 x41_2).f5.f0) ((rd_T84 l0 x41_2).f5.f1) true _ A23.out).mono ?_); rintro e w30 ⟨rfl, hb⟩; refine ⟨_, rfl, ?_⟩; replace HO_3 := am (Kd.R_below (by (with_reducible repeat (first | apply Kd.R_alloc | apply Kd.R_drewN | apply Kd.R_drew)); exact (Kd.R_mono (Kd.R_far (p := ⟨gb398, 7, none⟩) (Kd.R_far (p := ⟨gb398, 6, none⟩) (Kd.R_far (p := ⟨gb398, 5, none⟩) (Kd.R_far (p := ⟨gb398, 4, none⟩) (Kd.R_far (p := ⟨gb398, 3, none⟩) (Kd.R_far (p := ⟨gb398, 2, none⟩) (Kd.R_far (p := ⟨gb398, 1, none⟩) (Kd.R_far (p := ⟨gb398, 0, none⟩) (Kd.R_types HO_3.out BK398.out (by decide)) (fun _ hk => hk.2) (.int .i64 ((rd_T84 l0 x41_2).f0))) (fun _ hk => hk.2) (.int .i64 ((rd_T84 l0 x41_2).f1))) (fun _ hk => hk.2) (.int .i64 ((rd_T84 l0 x41_2).f2.f0))) (fun _ hk => hk.2) (.int .i64 ((rd_T84 l0 x41_2).f2.f1))) (fun _ hk => hk.2) (.int .i64 ((rd_T84 l0 x41_2).f3))) (fun _ hk => hk.2) (.int .i64 ((rd_T84 l0 x41_2).f4))) (fun _ hk => hk.2) (.int .i64 ((rd_T84 l0 x41_2).f5.f0))) (fun _ hk => hk.2) (.int .i64 ((rd_T84 l0 x41_2).f5.f1))) (fun _ h_ => h_.1))) hb); replace HO_8 := am (Kd.R_below (by (with_reducible repeat (first | apply Kd.R_alloc | apply Kd.R_drewN | apply Kd.R_drew)); exact (Kd.R_mono (Kd.R_far (p := ⟨gb398, 7, none⟩) (Kd.R_far (p := ⟨gb398, 6, none⟩) (Kd.R_far (p := ⟨gb398, 5, none⟩) (Kd.R_far (p := ⟨gb398, 4, none⟩) (Kd.R_far (p := ⟨gb398, 3, none⟩) (Kd.R_far (p := ⟨gb398, 2, none⟩) (Kd.R_far (p := ⟨gb398, 1, none⟩) (Kd.R_far (p := ⟨gb398, 0, none⟩) (Kd.R_types HO_8.out BK398.out (by decide)) (fun _ hk => hk.2) (.int .i64 ((rd_T84 l0 x41_2).f0))) (fun _ hk => hk.2) (.int .i64 ((rd_T84 l0 x41_2).f1))) (fun _ hk => hk.2) (.int .i64 ((rd_T84 l0 x41_2).f2.f0))) (fun _ hk => hk.2) (.int .i64 ((rd_T84 l0 x41_2).f2.f1))) (fun _ hk => hk.2) (.int .i64 ((rd_T84 l0 x41_2).f3))) (fun _ hk => hk.2) (.int .i64 ((rd_T84 l0 x41_2).f4))) (fun _ hk => hk.2) (.int .i64 ((rd_T84 l0 x41_2).f5.f0))) (fun _ hk => hk.2) (.int .i64 ((rd_T84 l0 x41_2).f5.f1))) (fun _ h_ => h_.1))) hb); replace BK398 := am (blk_below (g := gb398) (o := .cells #[.int .i64 ((rd_T84 l0 x41_2).f0), .int .i64 ((rd_T84 l0 x41_2).f1), .int .i64 ((rd_T84 l0 x41_2).f2.f0), .int .i64 ((rd_T84 l0 x41_2).f2.f1), .int .i64 ((rd_T84 l0 x41_2).f3), .int .i64 ((rd_T84 l0 x41_2).f4), .int .i64 ((rd_T84 l0 x41_2).f5.f0), .int .i64 ((rd_T84 l0 x41_2).f5.f1)] 84 (0, 0)) (by refine bB ?_; refine blk_put (cs := #[.int .i64 ((rd_T84 l0 x41_2).f0), .int .i64 ((rd_T84 l0 x41_2).f1), .int .i64 ((rd_T84 l0 x41_2).f2.f0), .int .i64 ((rd_T84 l0 x41_2).f2.f1), .int .i64 ((rd_T84 l0 x41_2).f3), .int .i64 ((rd_T84 l0 x41_2).f4), .int .i64 ((rd_T84 l0 x41_2).f5.f0), .int .i64 0]) ?_ 7 _ rfl; refine bB ?_; refine blk_put (cs := #[.int .i64 ((rd_T84 l0 x41_2).f0), .int .i64 ((rd_T84 l0 x41_2).f1), .int .i64 ((rd_T84 l0 x41_2).f2.f0), .int .i64 ((rd_T84 l0 x41_2).f2.f1), .int .i64 ((rd_T84 l0 x41_2).f3), .int .i64 ((rd_T84 l0 x41_2).f4), .int .i64 0, .int .i64 0]) ?_ 6 _ rfl; refine bB ?_; refine blk_put (cs := #[.int .i64 ((rd_T84 l0 x41_2).f0), .int .i64 ((rd_T84 l0 x41_2).f1), .int .i64 ((rd_T84 l0 x41_2).f2.f0), .int .i64 ((rd_T84 l0 x41_2).f2.f1), .int .i64 ((rd_T84 l0 x41_2).f3), .int .i64 0, .int .i64 0, .int .i64 0]) ?_ 5 _ rfl; refine bB ?_; refine blk_put (cs := #[.int .i64 ((rd_T84 l0 x41_2).f0), .int .i64 ((rd_T84 l0 x41_2).f1), .int .i64 ((rd_T84 l0 x41_2).f2.f0), .int .i64 ((rd_T84 l0 x41_2).f2.f1), .int .i64 0, .int .i64 0, .int .i64 0, .int .i64 0]) ?_ 4 _ rfl; refine bB ?_; refine blk_put (cs := #[.int .i64 ((rd_T84 l0 x41_2).f0), .int .i64 ((rd_T84 l0 x41_2).f1), .int .i64 ((rd_T84 l0 x41_2).f2.f0), .int .i64 0, .int .i64 0, .int .i64 0, .int .i64 0, .int .i64 0]) ?_ 3 _ rfl; refine bB ?_; refine blk_put (cs := #[.int .i64 ((rd_T84 l0 x41_2).f0), .int .i64 ((rd_T84 l0 x41_2).f1), .int .i64 0, .int .i64 0, .int .i64 0, .int .i64 0, .int .i64 0, .int .i64 0]) ?_ 2 _ rfl; refine bB ?_; refine blk_put (cs := #[.int .i64 ((rd_T84 l0 x41_2).f0), .int .i64 0, .int .i64 0, .int .i64 0, .int .i64 0, .int .i64 0, .int .i64 0, .int .i64 0]) ?_ 1 _ rfl; refine bB ?_; refine blk_put (cs := #[.int .i64 0, .int .i64 0, .int .i64 0, .int .i64 0, .int .i64 0, .int .i64 0, .int .i64 0, .int .i64 0]) ?_ 0 _ rfl; refine bB ?_; exact BK398.out) hb); replace HB := am (below_step (sB HB.out) hb); (try clear hb); (try clear hb2); (try clear hk); (try clear hi); obtain ⟨Ao31, co31, eo31⟩ := Kd.R_slice HO_3.out; subst eo31; have p400 : 0 ≤ (x41_2 : Int) := of_decide_eq_true (by first | (with_reducible assumption) | assumption); have q400 : x41_2 < (x3_1.length : Int) := of_decide_eq_true (by first | (with_reducible assumption) | assumption); obtain ⟨ad400, e400, hx400_0⟩ := Kd.at_bool (Kd.R_reads' HO_3.out).2.2 x41_2 p400 q400; (try rw [← Nbq26.out] at hx400_0); cases e400; replace p400 := eq_true p400; replace q400 := eq_true q400))
              go_roundg k2
              case measure => have := HK1.out; have := HK2.out; omega
              case rel => exact ⟨(x8_2), (wrap64 (x41_2 + 1)), (by first | rfl | (simp; done) | (simp [*]; done)), H', ⟨by have := HK1.out; have := HK2.out; omega⟩, ⟨by (with_reducible repeat (first | apply Kd.R_alloc | apply Kd.R_drewN | apply Kd.R_drew)); exact HO_3.out⟩, ⟨by (with_reducible repeat (first | apply Kd.R_alloc | apply Kd.R_drewN | apply Kd.R_drew)); exact HO_8.out⟩, ⟨sB HB.out⟩⟩
             ·replace c27 := Bool.eq_false_iff.mpr c27
              subst c27
              have H1 : (if x8_2.length < 17592186044416 then (impl_NeverChosen.l3 k2 x3_1 (x8_2 ++ [x41_2]) l0 (l0.length : Int) (wrap64 (x41_2 + 1))) else (none)) = some r := by rw [if_neg (show ¬ (false = true) by decide)] at H; exact H
              clear H
              have H := H1
              clear H1
              by_cases c32 : x8_2.length < 17592186044416
              ·rw [if_pos c32] at H
               have LMc32 := Aside0.mk c32
               clear c32
               obtain ⟨y401, hy401⟩ : ∃ y_ : List Int, y_ = (x8_2 ++ [x41_2]) := ⟨_, rfl⟩
               replace H : (impl_NeverChosen.l3 k2 x3_1 y401 l0 (l0.length : Int) (wrap64 (x41_2 + 1))) = some r := by first | (rw [hy401]; with_reducible exact H) | (have H2_ := (Option.bind_some _ _).symm.trans H; rw [hy401]; with_reducible exact H2_) | (have H2_ := (Option.bind_some _ _).symm.trans H; with_reducible exact H2_) | with_reducible exact H | (rw [hy401]; exact H) | exact H
               have Ny401 := Aside0.mk hy401
               clear hy401
               have H' := Aside0.mk H
               clear H
               have p397 : 0 ≤ (x41_2 : Int) := of_decide_eq_true (by first | (with_reducible assumption) | assumption)
               have q397 : x41_2 < (l0.length : Int) := of_decide_eq_true (by first | (with_reducible assumption) | assumption)
               obtain ⟨ad397, e397, hx397_0, hx397_1, hx397_2, hx397_3, hx397_4, hx397_5, hx397_6, hx397_7⟩ := at_T84 HR0.out x41_2 p397 q397
               cases e397
               replace hx397_0 := hc_ HB hx397_0
               replace hx397_1 := hc_ HB hx397_1
               replace hx397_2 := hc_ HB hx397_2
               replace hx397_3 := hc_ HB hx397_3
               replace hx397_4 := hc_ HB hx397_4
               replace hx397_5 := hc_ HB hx397_5
               replace hx397_6 := hc_ HB hx397_6
               replace hx397_7 := hc_ HB hx397_7
               replace p397 := eq_true p397
               replace q397 := eq_true q397
               go_wp2_with (first | ((with_reducible refine gate_dst (N := 10) rfl ?_); refine box_event ?hg (N := 10) ?hd (cs := #[.int .i64 0, .int .i64 0, .int .i64 0, .int .i64 0, .int .i64 0, .int .i64 0, .int .i64 0, .int .i64 0]) (t := 84) ?hr ?_; (case hd => rfl); (case hg => rfl); (case hr => first | (go_simp; done) | (go_simp; rfl)); intro gb398 hg w33 hbox hb; have n0_ := am (Kd.R_below (rB HO_3.out) hb); have n1_ := am (Kd.R_below (rB HO_8.out) hb); have q_ := hbx_ (sB HB.out) hg hb; have n2_ := q_.1; have n3_ := am (hbox); have n4_ := q_.2; have n5_ := n4_; clear HO_3; clear HO_8; clear HB; have HO_3 := n0_; have HO_8 := n1_; have HB := n2_; have BK398 := n3_; have GW398 := n4_; have GE398 := n5_; clear n0_ n1_ n2_ n3_ n4_ n5_; clear hb hbox hg; obtain ⟨hcz34_0, hcz34_1, hcz34_2, hcz34_3, hcz34_4, hcz34_5, hcz34_6, hcz34_7, hfz34_0, hfz34_1, hfz34_2, hfz34_3, hfz34_4, hfz34_5, hfz34_6, hfz34_7⟩ := blk8 BK398.out) | ((with_reducible refine gate_callee (f := 56) rfl ?_); refine goesL_ (some 47) rfl rfl Try.func56 (by kernel_rfl) rfl #[.agg #[.int .i64 ((rd_T84 l0 x41_2).f0), .int .i64 ((rd_T84 l0 x41_2).f1), .int .i64 ((rd_T84 l0 x41_2).f2.f0), .int .i64 ((rd_T84 l0 x41_2).f2.f1), .int .i64 ((rd_T84 l0 x41_2).f3), .int .i64 ((rd_T84 l0 x41_2).f4), .int .i64 ((rd_T84 l0 x41_2).f5.f0), .int .i64 ((rd_T84 l0 x41_2).f5.f1)]] rfl (by (try simp only [List.map_toArray, List.map_cons, List.map_nil]); first | done | rfl | (simp only [List.length_drop, List.length_take]; rfl)) ?_; (with_reducible refine (impl_IsRule.calls k2 ((rd_T84 l0 x41_2).f0) ((rd_T84 l0 x41_2).f1) ((rd_T84 l0 x41_2).f2.f0) ((rd_T84 l0 x41_2).f2.f1) ((rd_T84 l0 x41_2).f3) ((rd_T84 l0 x41_2).f4) ((rd_T84 l0 x41_2).f5.f0) ((rd_T84 l0 x41_2).f5.f1) true _ A23.out).mono ?_); rintro e w35 ⟨rfl, hb⟩; refine ⟨_, rfl, ?_⟩; replace HO_3 := am (Kd.R_below (by (with_reducible repeat (first | apply Kd.R_alloc | apply Kd.R_drewN | apply Kd.R_drew)); exact (Kd.R_mono (Kd.R_far (p := ⟨gb398, 7, none⟩) (Kd.R_far (p := ⟨gb398, 6, none⟩) (Kd.R_far (p := ⟨gb398, 5, none⟩) (Kd.R_far (p := ⟨gb398, 4, none⟩) (Kd.R_far (p := ⟨gb398, 3, none⟩) (Kd.R_far (p := ⟨gb398, 2, none⟩) (Kd.R_far (p := ⟨gb398, 1, none⟩) (Kd.R_far (p := ⟨gb398, 0, none⟩) (Kd.R_types HO_3.out BK398.out (by decide)) (fun _ hk => hk.2) (.int .i64 ((rd_T84 l0 x41_2).f0))) (fun _ hk => hk.2) (.int .i64 ((rd_T84 l0 x41_2).f1))) (fun _ hk => hk.2) (.int .i64 ((rd_T84 l0 x41_2).f2.f0))) (fun _ hk => hk.2) (.int .i64 ((rd_T84 l0 x41_2).f2.f1))) (fun _ hk => hk.2) (.int .i64 ((rd_T84 l0 x41_2).f3))) (fun _ hk => hk.2) (.int .i64 ((rd_T84 l0 x41_2).f4))) (fun _ hk => hk.2) (.int .i64 ((rd_T84 l0 x41_2).f5.f0))) (fun _ hk => hk.2) (.int .i64 ((rd_T84 l0 x41_2).f5.f1))) (fun _ h_ => h_.1))) hb); replace HO_8 := am (Kd.R_below (by (with_reducible repeat (first | apply Kd.R_alloc | apply Kd.R_drewN | apply Kd.R_drew)); exact (Kd.R_mono (Kd.R_far (p := ⟨gb398, 7, none⟩) (Kd.R_far (p := ⟨gb398, 6, none⟩) (Kd.R_far (p := ⟨gb398, 5, none⟩) (Kd.R_far (p := ⟨gb398, 4, none⟩) (Kd.R_far (p := ⟨gb398, 3, none⟩) (Kd.R_far (p := ⟨gb398, 2, none⟩) (Kd.R_far (p := ⟨gb398, 1, none⟩) (Kd.R_far (p := ⟨gb398, 0, none⟩) (Kd.R_types HO_8.out BK398.out (by decide)) (fun _ hk => hk.2) (.int .i64 ((rd_T84 l0 x41_2).f0))) (fun _ hk => hk.2) (.int .i64 ((rd_T84 l0 x41_2).f1))) (fun _ hk => hk.2) (.int .i64 ((rd_T84 l0 x41_2).f2.f0))) (fun _ hk => hk.2) (.int .i64 ((rd_T84 l0 x41_2).f2.f1))) (fun _ hk => hk.2) (.int .i64 ((rd_T84 l0 x41_2).f3))) (fun _ hk => hk.2) (.int .i64 ((rd_T84 l0 x41_2).f4))) (fun _ hk => hk.2) (.int .i64 ((rd_T84 l0 x41_2).f5.f0))) (fun _ hk => hk.2) (.int .i64 ((rd_T84 l0 x41_2).f5.f1))) (fun _ h_ => h_.1))) hb); replace BK398 := am (blk_below (g := gb398) (o := .cells #[.int .i64 ((rd_T84 l0 x41_2).f0), .int .i64 ((rd_T84 l0 x41_2).f1), .int .i64 ((rd_T84 l0 x41_2).f2.f0), .int .i64 ((rd_T84 l0 x41_2).f2.f1), .int .i64 ((rd_T84 l0 x41_2).f3), .int .i64 ((rd_T84 l0 x41_2).f4), .int .i64 ((rd_T84 l0 x41_2).f5.f0), .int .i64 ((rd_T84 l0 x41_2).f5.f1)] 84 (0, 0)) (by refine bB ?_; refine blk_put (cs := #[.int .i64 ((rd_T84 l0 x41_2).f0), .int .i64 ((rd_T84 l0 x41_2).f1), .int .i64 ((rd_T84 l0 x41_2).f2.f0), .int .i64 ((rd_T84 l0 x41_2).f2.f1), .int .i64 ((rd_T84 l0 x41_2).f3), .int .i64 ((rd_T84 l0 x41_2).f4), .int .i64 ((rd_T84 l0 x41_2).f5.f0), .int .i64 0]) ?_ 7 _ rfl; refine bB ?_; refine blk_put (cs := #[.int .i64 ((rd_T84 l0 x41_2).f0), .int .i64 ((rd_T84 l0 x41_2).f1), .int .i64 ((rd_T84 l0 x41_2).f2.f0), .int .i64 ((rd_T84 l0 x41_2).f2.f1), .int .i64 ((rd_T84 l0 x41_2).f3), .int .i64 ((rd_T84 l0 x41_2).f4), .int .i64 0, .int .i64 0]) ?_ 6 _ rfl; refine bB ?_; refine blk_put (cs := #[.int .i64 ((rd_T84 l0 x41_2).f0), .int .i64 ((rd_T84 l0 x41_2).f1), .int .i64 ((rd_T84 l0 x41_2).f2.f0), .int .i64 ((rd_T84 l0 x41_2).f2.f1), .int .i64 ((rd_T84 l0 x41_2).f3), .int .i64 0, .int .i64 0, .int .i64 0]) ?_ 5 _ rfl; refine bB ?_; refine blk_put (cs := #[.int .i64 ((rd_T84 l0 x41_2).f0), .int .i64 ((rd_T84 l0 x41_2).f1), .int .i64 ((rd_T84 l0 x41_2).f2.f0), .int .i64 ((rd_T84 l0 x41_2).f2.f1), .int .i64 0, .int .i64 0, .int .i64 0, .int .i64 0]) ?_ 4 _ rfl; refine bB ?_; refine blk_put (cs := #[.int .i64 ((rd_T84 l0 x41_2).f0), .int .i64 ((rd_T84 l0 x41_2).f1), .int .i64 ((rd_T84 l0 x41_2).f2.f0), .int .i64 0, .int .i64 0, .int .i64 0, .int .i64 0, .int .i64 0]) ?_ 3 _ rfl; refine bB ?_; refine blk_put (cs := #[.int .i64 ((rd_T84 l0 x41_2).f0), .int .i64 ((rd_T84 l0 x41_2).f1), .int .i64 0, .int .i64 0, .int .i64 0, .int .i64 0, .int .i64 0, .int .i64 0]) ?_ 2 _ rfl; refine bB ?_; refine blk_put (cs := #[.int .i64 ((rd_T84 l0 x41_2).f0), .int .i64 0, .int .i64 0, .int .i64 0, .int .i64 0, .int .i64 0, .int .i64 0, .int .i64 0]) ?_ 1 _ rfl; refine bB ?_; refine blk_put (cs := #[.int .i64 0, .int .i64 0, .int .i64 0, .int .i64 0, .int .i64 0, .int .i64 0, .int .i64 0, .int .i64 0]) ?_ 0 _ rfl; refine bB ?_; exact BK398.out) hb); replace HB := am (below_step (sB HB.out) hb); (try clear hb); (try clear hb2); (try clear hk); (try clear hi); obtain ⟨Ao36, co36, eo36⟩ := Kd.R_slice HO_3.out; subst eo36; have p400 : 0 ≤ (x41_2 : Int) := of_decide_eq_true (by first | (with_reducible assumption) | assumption); have q400 : x41_2 < (x3_1.length : Int) := of_decide_eq_true (by first | (with_reducible assumption) | assumption); obtain ⟨ad400, e400, hx400_0⟩ := Kd.at_bool (Kd.R_reads' HO_3.out).2.2 x41_2 p400 q400; (try rw [← Nbq26.out] at hx400_0); cases e400; replace p400 := eq_true p400; replace q400 := eq_true q400) | ((with_reducible refine gate_builtin (b := .append) (xs := #[.tmp 55, .tmp 57]) rfl ?_); at_builtin; refine Kd.R_append (Kd.int .i64) (w0 := w) w.heap.size rfl (.tmp 55) (.tmp 57) 53 3 (.int .i64 0) 8 rfl Try.underlying53 info3 rfl (by decide) (by omega) u8 x8_2 x41_2 [.int .i64 x41_2] (fun _ => True) (fun _ => False) rfl rfl ?aP (fun _ hk => hk.elim) ?aF ?aO ?aB ?aS ?aL ?_; (case aP => exact rfl); (case aB => exact (sB HB.out)); (case aF => exact (fun _ _ => trivial)); (case aO => exact (rB HO_8.out)); (case aS => exact (below_size (sB HB.out))); (case aL => have := LMc32.out; omega); intro v402 w37 ho hb hg hat; rw [← Ny401.out] at ho; have n0_ := am (Kd.R_over' (rB HO_3.out) (Kd.R_typed (rB HO_8.out)) (by decide) hg); have n1_ := am (blk_grown (g := gb398) (o := .cells #[.int .i64 ((rd_T84 l0 x41_2).f0), .int .i64 ((rd_T84 l0 x41_2).f1), .int .i64 ((rd_T84 l0 x41_2).f2.f0), .int .i64 ((rd_T84 l0 x41_2).f2.f1), .int .i64 ((rd_T84 l0 x41_2).f3), .int .i64 ((rd_T84 l0 x41_2).f4), .int .i64 ((rd_T84 l0 x41_2).f5.f0), .int .i64 ((rd_T84 l0 x41_2).f5.f1)] 84 (0, 0)) (bB BK398.out) hg (Kd.R_ne HO_8.out BK398.out (by decide))); have n2_ := am (hb); have n3_ := am (ho); clear HO_3; clear BK398; clear HB; clear HO_8; have HO_3 := n0_; have BK398 := n1_; have HB := n2_; have HO403 := n3_; clear n0_ n1_ n2_ n3_; clear ho hb hg hat))
               go_roundg k2
               case measure => have := HK1.out; have := HK2.out; omega
               case rel => exact ⟨(y401), (wrap64 (x41_2 + 1)), (by first | rfl | (simp; done) | (simp [*]; done)), H', ⟨by have := HK1.out; have := HK2.out; omega⟩, ⟨by (with_reducible repeat (first | apply Kd.R_alloc | apply Kd.R_drewN | apply Kd.R_drew)); exact HO_3.out⟩, ⟨by (with_reducible repeat (first | apply Kd.R_alloc | apply Kd.R_drewN | apply Kd.R_drew)); exact HO403.out⟩, ⟨sB HB.out⟩⟩
              ·rw [if_neg c32] at H
               exact absurd H (by simp)
            ·rw [if_neg c25] at H
             exact absurd H (by simp)
           ·replace c24 := Bool.eq_false_iff.mpr c24
            subst c24
            have H1 : (impl_NeverChosen.l3 k2 x3_1 x8_2 l0 (l0.length : Int) (wrap64 (x41_2 + 1))) = some r := by rw [if_neg (show ¬ (false = true) by decide)] at H; exact H
            clear H
            have H := H1
            clear H1
            have H' := Aside0.mk H
            clear H
            have p397 : 0 ≤ (x41_2 : Int) := of_decide_eq_true (by first | (with_reducible assumption) | assumption)
            have q397 : x41_2 < (l0.length : Int) := of_decide_eq_true (by first | (with_reducible assumption) | assumption)
            obtain ⟨ad397, e397, hx397_0, hx397_1, hx397_2, hx397_3, hx397_4, hx397_5, hx397_6, hx397_7⟩ := at_T84 HR0.out x41_2 p397 q397
            cases e397
            replace hx397_0 := hc_ HB hx397_0
            replace hx397_1 := hc_ HB hx397_1
            replace hx397_2 := hc_ HB hx397_2
            replace hx397_3 := hc_ HB hx397_3
            replace hx397_4 := hc_ HB hx397_4
            replace hx397_5 := hc_ HB hx397_5
            replace hx397_6 := hc_ HB hx397_6
            replace hx397_7 := hc_ HB hx397_7
            replace p397 := eq_true p397
            replace q397 := eq_true q397
            go_wp2_with (first | ((with_reducible refine gate_dst (N := 10) rfl ?_); refine box_event ?hg (N := 10) ?hd (cs := #[.int .i64 0, .int .i64 0, .int .i64 0, .int .i64 0, .int .i64 0, .int .i64 0, .int .i64 0, .int .i64 0]) (t := 84) ?hr ?_; (case hd => rfl); (case hg => rfl); (case hr => first | (go_simp; done) | (go_simp; rfl)); intro gb398 hg w38 hbox hb; have n0_ := am (Kd.R_below (rB HO_3.out) hb); have n1_ := am (Kd.R_below (rB HO_8.out) hb); have q_ := hbx_ (sB HB.out) hg hb; have n2_ := q_.1; have n3_ := am (hbox); have n4_ := q_.2; have n5_ := n4_; clear HO_3; clear HO_8; clear HB; have HO_3 := n0_; have HO_8 := n1_; have HB := n2_; have BK398 := n3_; have GW398 := n4_; have GE398 := n5_; clear n0_ n1_ n2_ n3_ n4_ n5_; clear hb hbox hg; obtain ⟨hcz39_0, hcz39_1, hcz39_2, hcz39_3, hcz39_4, hcz39_5, hcz39_6, hcz39_7, hfz39_0, hfz39_1, hfz39_2, hfz39_3, hfz39_4, hfz39_5, hfz39_6, hfz39_7⟩ := blk8 BK398.out) | ((with_reducible refine gate_callee (f := 56) rfl ?_); refine goesL_ (some 47) rfl rfl Try.func56 (by kernel_rfl) rfl #[.agg #[.int .i64 ((rd_T84 l0 x41_2).f0), .int .i64 ((rd_T84 l0 x41_2).f1), .int .i64 ((rd_T84 l0 x41_2).f2.f0), .int .i64 ((rd_T84 l0 x41_2).f2.f1), .int .i64 ((rd_T84 l0 x41_2).f3), .int .i64 ((rd_T84 l0 x41_2).f4), .int .i64 ((rd_T84 l0 x41_2).f5.f0), .int .i64 ((rd_T84 l0 x41_2).f5.f1)]] rfl (by (try simp only [List.map_toArray, List.map_cons, List.map_nil]); first | done | rfl | (simp only [List.length_drop, List.length_take]; rfl)) ?_; (with_reducible refine (impl_IsRule.calls k2 ((rd_T84 l0 x41_2).f0) ((rd_T84 l0 x41_2).f1) ((rd_T84 l0 x41_2).f2.f0) ((rd_T84 l0 x41_2).f2.f1) ((rd_T84 l0 x41_2).f3) ((rd_T84 l0 x41_2).f4) ((rd_T84 l0 x41_2).f5.f0) ((rd_T84 l0 x41_2).f5.f1) false _ A23.out).mono ?_); rintro e w40 ⟨rfl, hb⟩; refine ⟨_, rfl, ?_⟩; replace HO_3 := am (Kd.R_below (by (with_reducible repeat (first | apply Kd.R_alloc | apply Kd.R_drewN | apply Kd.R_drew)); exact (Kd.R_mono (Kd.R_far (p := ⟨gb398, 7, none⟩) (Kd.R_far (p := ⟨gb398, 6, none⟩) (Kd.R_far (p := ⟨gb398, 5, none⟩) (Kd.R_far (p := ⟨gb398, 4, none⟩) (Kd.R_far (p := ⟨gb398, 3, none⟩) (Kd.R_far (p := ⟨gb398, 2, none⟩) (Kd.R_far (p := ⟨gb398, 1, none⟩) (Kd.R_far (p := ⟨gb398, 0, none⟩) (Kd.R_types HO_3.out BK398.out (by decide)) (fun _ hk => hk.2) (.int .i64 ((rd_T84 l0 x41_2).f0))) (fun _ hk => hk.2) (.int .i64 ((rd_T84 l0 x41_2).f1))) (fun _ hk => hk.2) (.int .i64 ((rd_T84 l0 x41_2).f2.f0))) (fun _ hk => hk.2) (.int .i64 ((rd_T84 l0 x41_2).f2.f1))) (fun _ hk => hk.2) (.int .i64 ((rd_T84 l0 x41_2).f3))) (fun _ hk => hk.2) (.int .i64 ((rd_T84 l0 x41_2).f4))) (fun _ hk => hk.2) (.int .i64 ((rd_T84 l0 x41_2).f5.f0))) (fun _ hk => hk.2) (.int .i64 ((rd_T84 l0 x41_2).f5.f1))) (fun _ h_ => h_.1))) hb); replace HO_8 := am (Kd.R_below (by (with_reducible repeat (first | apply Kd.R_alloc | apply Kd.R_drewN | apply Kd.R_drew)); exact (Kd.R_mono (Kd.R_far (p := ⟨gb398, 7, none⟩) (Kd.R_far (p := ⟨gb398, 6, none⟩) (Kd.R_far (p := ⟨gb398, 5, none⟩) (Kd.R_far (p := ⟨gb398, 4, none⟩) (Kd.R_far (p := ⟨gb398, 3, none⟩) (Kd.R_far (p := ⟨gb398, 2, none⟩) (Kd.R_far (p := ⟨gb398, 1, none⟩) (Kd.R_far (p := ⟨gb398, 0, none⟩) (Kd.R_types HO_8.out BK398.out (by decide)) (fun _ hk => hk.2) (.int .i64 ((rd_T84 l0 x41_2).f0))) (fun _ hk => hk.2) (.int .i64 ((rd_T84 l0 x41_2).f1))) (fun _ hk => hk.2) (.int .i64 ((rd_T84 l0 x41_2).f2.f0))) (fun _ hk => hk.2) (.int .i64 ((rd_T84 l0 x41_2).f2.f1))) (fun _ hk => hk.2) (.int .i64 ((rd_T84 l0 x41_2).f3))) (fun _ hk => hk.2) (.int .i64 ((rd_T84 l0 x41_2).f4))) (fun _ hk => hk.2) (.int .i64 ((rd_T84 l0 x41_2).f5.f0))) (fun _ hk => hk.2) (.int .i64 ((rd_T84 l0 x41_2).f5.f1))) (fun _ h_ => h_.1))) hb); replace BK398 := am (blk_below (g := gb398) (o := .cells #[.int .i64 ((rd_T84 l0 x41_2).f0), .int .i64 ((rd_T84 l0 x41_2).f1), .int .i64 ((rd_T84 l0 x41_2).f2.f0), .int .i64 ((rd_T84 l0 x41_2).f2.f1), .int .i64 ((rd_T84 l0 x41_2).f3), .int .i64 ((rd_T84 l0 x41_2).f4), .int .i64 ((rd_T84 l0 x41_2).f5.f0), .int .i64 ((rd_T84 l0 x41_2).f5.f1)] 84 (0, 0)) (by refine bB ?_; refine blk_put (cs := #[.int .i64 ((rd_T84 l0 x41_2).f0), .int .i64 ((rd_T84 l0 x41_2).f1), .int .i64 ((rd_T84 l0 x41_2).f2.f0), .int .i64 ((rd_T84 l0 x41_2).f2.f1), .int .i64 ((rd_T84 l0 x41_2).f3), .int .i64 ((rd_T84 l0 x41_2).f4), .int .i64 ((rd_T84 l0 x41_2).f5.f0), .int .i64 0]) ?_ 7 _ rfl; refine bB ?_; refine blk_put (cs := #[.int .i64 ((rd_T84 l0 x41_2).f0), .int .i64 ((rd_T84 l0 x41_2).f1), .int .i64 ((rd_T84 l0 x41_2).f2.f0), .int .i64 ((rd_T84 l0 x41_2).f2.f1), .int .i64 ((rd_T84 l0 x41_2).f3), .int .i64 ((rd_T84 l0 x41_2).f4), .int .i64 0, .int .i64 0]) ?_ 6 _ rfl; refine bB ?_; refine blk_put (cs := #[.int .i64 ((rd_T84 l0 x41_2).f0), .int .i64 ((rd_T84 l0 x41_2).f1), .int .i64 ((rd_T84 l0 x41_2).f2.f0), .int .i64 ((rd_T84 l0 x41_2).f2.f1), .int .i64 ((rd_T84 l0 x41_2).f3), .int .i64 0, .int .i64 0, .int .i64 0]) ?_ 5 _ rfl; refine bB ?_; refine blk_put (cs := #[.int .i64 ((rd_T84 l0 x41_2).f0), .int .i64 ((rd_T84 l0 x41_2).f1), .int .i64 ((rd_T84 l0 x41_2).f2.f0), .int .i64 ((rd_T84 l0 x41_2).f2.f1), .int .i64 0, .int .i64 0, .int .i64 0, .int .i64 0]) ?_ 4 _ rfl; refine bB ?_; refine blk_put (cs := #[.int .i64 ((rd_T84 l0 x41_2).f0), .int .i64 ((rd_T84 l0 x41_2).f1), .int .i64 ((rd_T84 l0 x41_2).f2.f0), .int .i64 0, .int .i64 0, .int .i64 0, .int .i64 0, .int .i64 0]) ?_ 3 _ rfl; refine bB ?_; refine blk_put (cs := #[.int .i64 ((rd_T84 l0 x41_2).f0), .int .i64 ((rd_T84 l0 x41_2).f1), .int .i64 0, .int .i64 0, .int .i64 0, .int .i64 0, .int .i64 0, .int .i64 0]) ?_ 2 _ rfl; refine bB ?_; refine blk_put (cs := #[.int .i64 ((rd_T84 l0 x41_2).f0), .int .i64 0, .int .i64 0, .int .i64 0, .int .i64 0, .int .i64 0, .int .i64 0, .int .i64 0]) ?_ 1 _ rfl; refine bB ?_; refine blk_put (cs := #[.int .i64 0, .int .i64 0, .int .i64 0, .int .i64 0, .int .i64 0, .int .i64 0, .int .i64 0, .int .i64 0]) ?_ 0 _ rfl; refine bB ?_; exact BK398.out) hb); replace HB := am (below_step (sB HB.out) hb); (try clear hb); (try clear hb2); (try clear hk); (try clear hi)))
            go_roundg k2
            case measure => have := HK1.out; have := HK2.out; omega
            case rel => exact ⟨(x8_2), (wrap64 (x41_2 + 1)), (by first | rfl | (simp; done) | (simp [*]; done)), H', ⟨by have := HK1.out; have := HK2.out; omega⟩, ⟨by (with_reducible repeat (first | apply Kd.R_alloc | apply Kd.R_drewN | apply Kd.R_drew)); exact HO_3.out⟩, ⟨by (with_reducible repeat (first | apply Kd.R_alloc | apply Kd.R_drewN | apply Kd.R_drew)); exact HO_8.out⟩, ⟨sB HB.out⟩⟩
          ·rw [if_neg c22] at H
           exact absurd H (by simp)
         ·rw [if_neg c21] at H
          exact absurd H (by simp)
        ·rw [if_neg c20] at H
         have c20b0 : decide (x41_2 < (l0.length : Int)) = false := decide_eq_false c20
         clear c20
         obtain rfl := Option.some.inj H
         go_wp2
         go_ret
         exact ⟨_, by first | rfl | (simp [errW_none, errW_some] <;> rfl) | (simp [*, errW_none, errW_some] <;> rfl), by (with_reducible repeat (first | apply Kd.R_alloc | apply Kd.R_drewN | apply Kd.R_drew)); exact HO_8.out, sB HB.out⟩
  ·rw [if_neg c3] at H
   exact absurd H (by simp)
 ·rw [if_neg c2] at H
  exact absurd H (by simp)

end Go.Proofs.Ytilneejgliglhaa.QS
