/- laws.markRuleSS and laws.markTable (they write into the slices of a slice), each with its walk: written by hand after the printed walks of heldRuleSS and heldTable. -/
import Derived.Test.YtepndcpncndjdaaQSx0
import Derived.Test.YtepndcpncndjdaaQSx27
namespace Go.Proofs.Ytepndcpncndjdaa.QS
open Go.RowKit Go.Proofs.YtepndcpncndjdaaW.PrintWords Go.Proofs.YtepndcpncndjdaaW.PrintLast Go.Proofs.YtepndcpncndjdaaW.PrintMore Go.Proofs.Ytepndcpncndjdaa.Short
attribute [local go_sem] max2_int min2_int max_two min_two max_three min_three max_four min_four   -- for this text's walks alone
set_option linter.unusedVariables false
set_option linter.unusedSimpArgs false

/-! ### the ghost: the world w1 in which what is marked has just been made, and what was made before it -/
theorem ge_of {w W : World} {S : Nat → Prop} {g : Nat} (h : Kept w W S) (hg : g = W.heap.size) : w.heap.size ≤ g := by rw [hg]; exact h.1
theorem kept_set {w W : World} {S : Nat → Prop} {g off : Nat} (h : Kept w W S) (hg : w.heap.size ≤ g) (u : Value) : Kept w (W.setCell ⟨g, off, none⟩ u) S := Kept.setCell h (.inr hg) u
structure Ghost (w1 : World) (N base : Nat) (X : Option Nat) (vA vB : Value) (A : List S37) (B : List (List S37)) (gA gB : Value) (A' : List S37) (B' : List (List S37)) : Prop where
  le : N ≤ w1.heap.size
  base_le : base ≤ N
  x : ∀ k, some k = X → k < N
  a : Kd.R k37 37 w1 base (fun k => k < N ∧ some k ≠ X) vA A
  b : Kd.S (Kd.slice 37 k37) 24 w1 base (fun k => k < N ∧ some k ≠ X) vB B
  r : Kd.R k37 37 w1 N (fun _ => True) gA A'
  s : Kd.S (Kd.slice 37 k37) 24 w1 N (fun k => some k ≠ gA.ownBlock) gB B'
theorem ghost_make {W w1 : World} {base : Nat} {X : Option Nat} {vA vB gA gB : Value} {A A' : List S37} {B B' : List (List S37)} {ok1 ok2 ok0 : Nat → Prop} (hb : Below W.heap.size W w1) (h1 : Kd.R k37 37 W base ok1 vA A) (h1x : ∀ k, ok1 k → some k ≠ X)
    (h2 : Kd.S (Kd.slice 37 k37) 24 W base ok2 vB B) (h2x : ∀ k, ok2 k → some k ≠ X) (hx : ∀ k, X = some k → k < W.heap.size) (ho0 : Kd.R k37 37 w1 W.heap.size ok0 gA A') (ho1 : Kd.S (Kd.slice 37 k37) 24 w1 W.heap.size (fun k => some k ≠ gA.ownBlock) gB B') (hbs : base ≤ W.heap.size) :
    ∃ N, N = W.heap.size ∧ Ghost w1 N base X vA vB A B gA gB A' B' :=
  ⟨_, rfl, hb.size, hbs, fun k hk => hx k hk.symm, Kd.R_mono (Kd.R_below (Kd.R_bound h1) hb) (fun k hk => ⟨hk.2.2.1, h1x k hk.1⟩), Kd.S_mono (Kd.S_below (Kd.S_bound h2) hb) (fun k hk => ⟨hk.2.2.1, h2x k hk.1⟩), Kd.R_mono ho0 (fun _ _ => trivial), ho1⟩
section
variable {w1 W W2 : World} {N base : Nat} {X : Option Nat} {vA vB gA gB : Value} {A A' : List S37} {B B' : List (List S37)}
theorem Ghost.r0 (h : Ghost w1 N base X vA vB A B gA gB A' B') (hk : Kept w1 W (fun k => some k = X)) : Kd.R k37 37 W base (fun k => N ≤ k) gA A' :=
  Kd.R_lower (Kd.R_kept (Kd.R_mono (Kd.R_bound h.r) (fun _ hk => hk.2.1)) hk (fun k hn hx => absurd (h.x k hx) (Nat.not_lt_of_le hn))) h.base_le
theorem Ghost.r1 (h : Ghost w1 N base X vA vB A B gA gB A' B') (hk : Kept w1 W (fun k => some k = X)) : Kd.S (Kd.slice 37 k37) 24 W base (fun k => N ≤ k ∧ some k ≠ gA.ownBlock) gB B' :=
  Kd.S_lower (Kd.S_kept (Kd.S_mono (Kd.S_bound h.s) (fun _ hk => ⟨hk.2.1, hk.1⟩)) hk (fun k hn hx => absurd (h.x k hx) (Nat.not_lt_of_le hn.1))) h.base_le
theorem Ghost.kept (h : Ghost w1 N base X vA vB A B gA gB A' B') (hk : Kept w1 W (fun k => some k = X)) (hm : Kept W W2 (fun k => N ≤ k)) : Kept w1 W2 (fun k => some k = X ∨ N ≤ k) :=
  (hk.mono (fun _ h_ => .inl h_)).then_ hm (fun _ h_ => .inl (.inr h_))
theorem Ghost.old {Aa Ab : Option Addr} {ca cb : Nat} (h : Ghost w1 N base X (.slice Aa A.length ca) (.slice Ab B.length cb) A B gA gB A' B') :
    ∀ W', Kept w1 W' (fun k => some k = X ∨ N ≤ k) → Kd.C k37 W' Aa A.length A ∧ A.length ≤ ca ∧ Kd.C (Kd.slice 37 k37) W' Ab B.length B ∧ B.length ≤ cb := fun W' hk => by
  have ha := Kd.R_reads' (Kd.R_kept h.a hk (fun k hn hx => hx.elim hn.2 (fun h2 => absurd hn.1 (Nat.not_lt_of_le h2))))
  have hb := Kd.S_reads' (Kd.S_kept h.b hk (fun k hn hx => hx.elim hn.2 (fun h2 => absurd hn.1 (Nat.not_lt_of_le h2))))
  exact ⟨ha.2.2, ha.2.1, hb.2.2, hb.2.1⟩
end

/-! ### laws_markRuleSS: function 49 -/
def laws_markRuleSS.l0 : Nat → List (List (S37)) → Int → Int → Option (Int × List (List (S37)))
  | 0, _, _, _ => none
  | k + 1, x0, x1, x5 => if x5 < (x0.length : Int) then (if 0 ≤ x5 then ((laws_markRuleS.f k (rd_L7 x0 x5) x1).bind fun bt => (laws_markRuleSS.l0 k (x0.set x5.toNat bt.2) bt.1 (wrap64 (x5 + 1)))) else (none)) else (some (x1, x0))
def laws_markRuleSS.f (k : Nat) (l0 : List (List (S37))) (a1 : Int) : Option (Int × List (List (S37))) := laws_markRuleSS.l0 k l0 a1 0
set_option maxHeartbeats 8000000 in
set_option maxRecDepth 100000 in
theorem laws_markRuleSS.calls (k : Nat) (P : Nat → Prop) (u : Value) (l0 : List (List (S37))) (a1 : Int) (r1 : Int) (r2 : List (List (S37))) (w0 w : World) (hB : Below w0.heap.size w0 w) (ho : Kd.S (Kd.slice 37 k37) 24 w w0.heap.size P u l0) (h : laws_markRuleSS.f k l0 a1 = some (r1, r2)) :
    Calls Try.prog 49 #[u, .int .i64 a1] w fun e w' => e = .returned (.int .i64 r1) ∧ Kd.S (Kd.slice 37 k37) 24 w' w0.heap.size P u r2 ∧ Below w0.heap.size w0 w' ∧ Kept w w' P := by
  obtain ⟨Ao, co, eo⟩ := Kd.S_slice ho
  subst eo
  have HS0 := Aside0.mk ho
  clear ho
  have HB := Aside0.mk hB
  clear hB
  have H : (laws_markRuleSS.l0 k l0 a1 0) = some (r1, r2) := h
  clear h
  have H' := Aside0.mk H
  clear H
  go_enter Try.func49, Try.ntmps49
  go_wp2
  go_loopg [1, 5] k (fun kq v1 v5 w' => ∃ (q : List (List (S37))) (x1_1 : Int) (x5_1 : Int), v1 = .int .i64 x1_1 ∧ v5 = .int .i64 x5_1 ∧ Aside0 (laws_markRuleSS.l0 kq q x1_1 x5_1 = some (r1, r2)) ∧ Aside0 (kq ≤ k) ∧ Aside0 (q.length = l0.length) ∧ Aside0 (Kd.S (Kd.slice 37 k37) 24 w' w0.heap.size P (.slice Ao l0.length co) q) ∧ Aside0 (Below w0.heap.size w0 w') ∧ Aside0 (Kept w w' P))
  case atStart => exact ⟨l0, a1, 0, (by first | rfl | (simp; done) | (simp [*]; done)), (by first | rfl | (simp; done) | (simp [*]; done)), H', ⟨Nat.le_refl _⟩, ⟨rfl⟩, HS0, HB, ⟨Kept.refl w P⟩⟩
  case round =>
    clear H' HS0 HB
    obtain ⟨q, x1_1, x5_1, rfl, rfl, HA, HK1, HL, HS, HB, HK⟩ := hrel
    cases gk with
    | zero => exact absurd HA.out (by simp [laws_markRuleSS.l0])
    | succ k1 =>
      have H := HA.out
      clear HA
      simp only [laws_markRuleSS.l0] at H
      by_cases c3 : x5_1 < (q.length : Int)
      · rw [if_pos c3] at H
        have c3' : x5_1 < (l0.length : Int) := by rw [← HL.out]; exact c3
        have c3b0 : decide (x5_1 < (l0.length : Int)) = true := decide_eq_true c3'
        by_cases c4 : 0 ≤ x5_1
        · rw [if_pos c4] at H
          have c4b0 : decide (0 ≤ x5_1) = true := decide_eq_true c4
          replace H := Option.bind_eq_some_iff.mp H
          obtain ⟨⟨t1, t2⟩, A50, H⟩ := H
          replace H : (laws_markRuleSS.l0 k1 (q.set x5_1.toNat t2) t1 (wrap64 (x5_1 + 1))) = some (r1, r2) := H
          have A5 := Aside0.mk A50
          clear A50
          have H' := Aside0.mk H
          clear H
          obtain ⟨go, cgo, ego, gbase, glt, gcells⟩ := Kd.S_form HS.out (by omega)
          injection ego with f1_ f2_ f3_
          subst f1_
          subst f3_
          obtain ⟨oki, ce, hcl, hM, hcc, hoki, hH⟩ := Kd.S_lend HS.out ([] : List S37) x5_1 c4 c3'
          obtain ⟨ve, rfl, hR⟩ := hM
          have hx := hcc 0 _ rfl
          simp only [show ((Kd.slice 37 k37)).sz = 1 from rfl, Nat.mul_one, Nat.add_zero] at hx
          have hRL : Kd.R k37 37 wr w0.heap.size oki ve (rd_L7 q x5_1) := hR
          obtain ⟨Ae, cce, ee⟩ := Kd.R_slice hRL
          subst ee
          have HRE := Aside0.mk hRL
          have HH := Aside0.mk hH
          have HOK := Aside0.mk hoki
          clear hR hRL hH hoki hcl hcc gcells glt gbase f2_
          have p16 := eq_true c4
          have q16 := eq_true c3'
          clear c3 c3' c4
          go_wp2_with (first | ((with_reducible refine gate_callee (f := 24) rfl ?_); refine goesL_ (some 17) rfl rfl Try.func24 (by kernel_rfl) rfl #[.slice Ae (rd_L7 q x5_1).length cce, .int .i64 x1_1] rfl (by (try simp only [List.map_toArray, List.map_cons, List.map_nil]); first | done | rfl) ?_; (with_reducible refine (laws_markRuleS.calls k1 oki (.slice Ae (rd_L7 q x5_1).length cce) (rd_L7 q x5_1) x1_1 t1 t2 w0 _ HB.out HRE.out A5.out).mono ?_); rintro e w1 ⟨rfl, hy0, hb, hkp⟩; refine ⟨_, rfl, ?_⟩))
          go_roundg k1
          case measure => have := HK1.out; omega
          case rel =>
            refine ⟨q.set x5_1.toNat t2, t1, (wrap64 (x5_1 + 1)), (by first | rfl | (simp; done) | (simp [*]; done)), (by first | rfl | (simp; done) | (simp [*]; done)), H', ⟨by have := HK1.out; omega⟩, ⟨by rw [List.length_set]; exact HL.out⟩, ⟨?_⟩, ⟨hb⟩, ⟨HK.out.then_ hkp (fun k_ h_ => .inl (HOK.out k_ h_).1)⟩⟩
            exact Kd.H_back (Kd.H_kept HH.out hkp (fun _ _ h_ => h_)) (okp := oki) ⟨_, rfl, Kd.R_reok rfl hy0 (fun k_ e_ => HRE.out.1 k_ e_)⟩ (fun _ h_ => h_)
        · rw [if_neg c4] at H
          exact absurd H (by simp)
      · rw [if_neg c3] at H
        have c3b0 : decide (x5_1 < (l0.length : Int)) = false := decide_eq_false (by rw [← HL.out]; exact c3)
        clear c3
        have e2 := Option.some.inj H
        injection e2 with e3 e4
        subst e3
        subst e4
        go_wp2
        go_ret
        exact ⟨by first | rfl | (simp; done) | (simp [*]; done), HS.out, HB.out, HK.out⟩

/-! ### laws_markTable: function 25 -/
def laws_markTable.f (k : Nat) (l0_0 : List (S37)) (l0_1 : List (List (S37))) (a1 : Int) : Option (Int × List (S37) × List (List (S37))) := (laws_markRuleS.f k l0_0 a1).bind fun bt => ((laws_markRuleSS.f k l0_1 bt.1).bind fun ct => some (ct.1, bt.2, ct.2))
set_option maxHeartbeats 8000000 in
set_option maxRecDepth 100000 in
theorem laws_markTable.calls (k : Nat) (P Q : Nat → Prop) (u0 u1 : Value) (l0 : List (S37)) (l1 : List (List (S37))) (a1 : Int) (r1 : Int) (r2 : List (S37)) (r3 : List (List (S37))) (w0 w : World) (hB : Below w0.heap.size w0 w) (ho0 : Kd.R k37 37 w w0.heap.size P u0 l0) (ho1 : Kd.S (Kd.slice 37 k37) 24 w w0.heap.size Q u1 l1)
    (hne : ∀ k_, some k_ = u0.ownBlock → ¬ Q k_) (h : laws_markTable.f k l0 l1 a1 = some (r1, r2, r3)) :
    Calls Try.prog 25 #[.agg #[u0, u1], .int .i64 a1] w fun e w' => e = .returned (.int .i64 r1) ∧ Kd.R k37 37 w' w0.heap.size P u0 r2 ∧ Kd.S (Kd.slice 37 k37) 24 w' w0.heap.size Q u1 r3 ∧ Below w0.heap.size w0 w' ∧ Kept w w' (fun k_ => P k_ ∨ Q k_) := by
  have hu33 := Try.underlying33
  obtain ⟨A0, c0, e0⟩ := Kd.R_slice ho0
  subst e0
  obtain ⟨A1, c1, e1⟩ := Kd.S_slice ho1
  subst e1
  have HR := Aside0.mk ho0
  have HS := Aside0.mk ho1
  have HB := Aside0.mk hB
  have HN := Aside0.mk hne
  have HK := Aside0.mk (Kept.refl w (fun k_ => P k_ ∨ Q k_))
  clear ho0 ho1 hB hne
  replace h := Option.bind_eq_some_iff.mp h
  obtain ⟨⟨t1, t2⟩, A30, h⟩ := h
  replace h := Option.bind_eq_some_iff.mp h
  obtain ⟨⟨s1, s2⟩, A40, h⟩ := h
  have e2 := Option.some.inj h
  injection e2 with e3 e4
  injection e4 with e5 e6
  subst e3
  subst e5
  subst e6
  clear h
  have A3 := Aside0.mk A30
  have A4 := Aside0.mk A40
  clear A30 A40
  go_enter Try.func25, Try.ntmps25
  go_wp2_with (first | ((with_reducible refine gate_dst (N := 2) rfl ?_); refine box_event ?hg (N := 2) ?hd (cs := #[.slice A0 l0.length c0, .slice A1 l1.length c1]) (t := 33) ?hr ?_; (case hd => rfl); (case hg => rfl); (case hr => first | (go_simp; done) | (go_simp; rfl)); intro gb hg w5 hbox hb; have n0_ := am (Kd.R_below HR.out hb); have n1_ := am (Kd.S_below HS.out hb); have n2_ := am (HB.out.trans (hb.mono HB.out.size)); have n3_ := am (HK.out.below hb); clear HR HS HB HK; have HR := n0_; have HS := n1_; have HB := n2_; have HK := n3_; have BK := am hbox; clear n0_ n1_ n2_ n3_ hb hbox hg; obtain ⟨hcz6_0, hcz6_1, hfz6_0, hfz6_1⟩ := blk2 BK.out) | ((with_reducible refine gate_callee (f := 24) rfl ?_); refine goesL_ (some 8) rfl rfl Try.func24 (by kernel_rfl) rfl #[.slice A0 l0.length c0, .int .i64 a1] rfl (by (try simp only [List.map_toArray, List.map_cons, List.map_nil]); first | done | rfl) ?_; (with_reducible refine (laws_markRuleS.calls k (fun k_ => some k_ = (.slice A0 l0.length c0 : Value).ownBlock) (.slice A0 l0.length c0) l0 a1 t1 t2 w0 _ HB.out (Kd.R_tight rfl HR.out) A3.out).mono ?_); rintro e w7 ⟨rfl, hy0, hb, hkp⟩; refine ⟨_, rfl, ?_⟩; have n0_ := am (Kd.R_reok (ok := P) rfl hy0 (fun k_ e_ => HR.out.1 k_ e_)); have n1_ := am (Kd.S_kept HS.out hkp (fun k_ hq_ hs_ => HN.out k_ hs_ hq_)); have n2_ := am (HK.out.then_ hkp (fun k_ h_ => .inl (.inl (HR.out.1 k_ h_.symm)))); have n3_ := am (blk_kept BK.out hkp (fun hs_ => (Kd.R_ne HR.out BK.out (by decide)) hs_)); clear HR HS HB HK BK; have HR := n0_; have HS := n1_; have HB := am hb; have HK := n2_; have BK := n3_; clear n0_ n1_ n2_ n3_ hb hkp hy0; obtain ⟨hcz8_0, hcz8_1, hfz8_0, hfz8_1⟩ := blk2 BK.out) | ((with_reducible refine gate_callee (f := 49) rfl ?_); refine goesL_ (some 12) rfl rfl Try.func49 (by kernel_rfl) rfl #[.slice A1 l1.length c1, .int .i64 t1] rfl (by (try simp only [List.map_toArray, List.map_cons, List.map_nil]); first | done | rfl) ?_; (with_reducible refine (laws_markRuleSS.calls k Q (.slice A1 l1.length c1) l1 t1 s1 s2 w0 _ HB.out HS.out A4.out).mono ?_); rintro e w9 ⟨rfl, hy0, hb, hkp⟩; refine ⟨_, rfl, ?_⟩; have n0_ := am (Kd.R_kept (Kd.R_tight rfl HR.out) hkp (fun k_ h_ => HN.out k_ h_)); have n1_ := am hy0; have n2_ := am (HK.out.then_ hkp (fun k_ h_ => .inl (.inr h_))); have n3_ := am (Kd.R_reok (ok := P) rfl n0_.out (fun k_ e_ => HR.out.1 k_ e_)); clear HR HS HB HK n0_; have HR := n3_; have HS := n1_; have HB := am hb; have HK := n2_; clear n1_ n2_ n3_ hb hkp hy0))
  go_ret
  exact ⟨by first | rfl | (simp [errW_none, errW_some] <;> rfl) | (simp [*, errW_none, errW_some] <;> rfl), HR.out, HS.out, HB.out, HK.out⟩

end Go.Proofs.Ytepndcpncndjdaa.QS
