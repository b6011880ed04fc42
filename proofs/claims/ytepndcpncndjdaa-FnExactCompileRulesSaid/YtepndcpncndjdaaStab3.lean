/- slices.stableCmpFunc and slices.SortStableFunc. -/
import Derived.Test.YtepndcpncndjdaaStab2
import Derived.Sort.WalkB2
import Derived.Sort.WalkB12
import Derived.Deep.LoopGhost
import Derived.Deep.DeepCutAuto
namespace Go.Proofs.Ytepndcpncndjdaa
open Go.Shelf Go.RowKit Go.Lib Go.Sort
variable {α : Type} [Inhabited α]
set_option maxHeartbeats 8000000 in
set_option maxRecDepth 1000000 in
theorem stab_stable {P : Program} {k : Nat} (L : StabP P k) (enc : α → List Value) (cf : α → α → Int) (g : Nat) (cb : Array Value) (blk off cap : Nat) (d0 : Array α) (w0 : World)
    (eg : ∀ args w, (callFunc g args).run P w = .ok (.enter g args) w) (hcmp : CmpLays P g cb enc k cf blk off d0.size w0) (R : RowK enc k w0 blk off d0) (d : Array α) (w : World)
    (HI : ∀ (a b : Nat) (dk : Array α) (wk : World), d0.size = dk.size → SWK enc k w0 blk off dk wk → a ≤ b → b ≤ dk.size → dk.size < 4611686018427387904 →
      Calls P 74 #[.slice (some ⟨blk, off, none⟩) dk.size cap, .int .i64 a, .int .i64 b, .func (.func g) #[] cb] wk fun e w' => e = .returned (.tuple #[]) ∧ SWK enc k w0 blk off (Sort.insertionSort (ltOf cf) dk a b) w' ∧ (Sort.insertionSort (ltOf cf) dk a b).size = dk.size)
    (hs : d0.size = d.size) (S : SWK enc k w0 blk off d w) (hsz : d.size < 4611686018427387904) :
    Calls P 62 #[.slice (some ⟨blk, off, none⟩) d.size cap, .int .i64 d.size, .func (.func g) #[] cb] w fun e w' => e = .returned (.tuple #[]) ∧ SWK enc k w0 blk off (Stab.stable (ltOf cf) d d.size) w' := by
  have LL : Aside (StabP P k) := L
  obtain ⟨mixed, F43, F62, F75, F77, F78, e43, e62, e74, e75, e77, e78, t0, a0, z0, v0, t3, a3, z3, v3, t4, a4, z4, v4, t24, a24, z24, v24, t68, a68, z68, v68, t96, a96, z96, v96, a37, z37⟩ := L
  have HC : Aside _ := hcmp
  have HN : Aside _ := HI
  have S0 : Aside (SWK enc k w0 blk off d w) := S
  clear S hcmp HI
  obtain ⟨n, hn⟩ : ∃ q, q = d.size := ⟨_, rfl⟩
  have hn1 : n ≤ d.size := by omega
  have hn2 : d.size ≤ n := by omega
  have HNN : Hid (n = d.size) := hn
  rw [← hn]
  rw [← hn] at hsz
  clear hn
  go_enter F62, Try.ntmps62
  go_wp2
  go_loopg [7, 8] n (fun kx s7 s8 wr => ∃ (av bv fu : Nat) (dk : Array α), s7 = .int .i64 av ∧ s8 = .int .i64 bv ∧ Hid (bv = av + 20) ∧ av ≤ n ∧ n - av ≤ kx ∧ n - av < fu ∧ dk.size = d.size ∧ Aside (SWK enc k w0 blk off dk wr) ∧ Hid (Stab.blkLoop (ltOf cf) 20 n fu dk av = Stab.blkLoop (ltOf cf) 20 n (n + 1) d 0))
  case atStart => exact ⟨0, 20, n + 1, d, by first | rfl | go_num, by first | rfl | go_num, rfl, by omega, by omega, by omega, rfl, S0, rfl⟩
  case round =>
    clear S0
    obtain ⟨av, bv, fu, dk, rfl, rfl, hbv, han, hkx, hfu, hds, S1, HB⟩ := hrel
    obtain ⟨fu', HF⟩ : ∃ q, Hid (fu = q + 1) := ⟨fu - 1, (by show _ = _; omega)⟩
    have bv1 : bv ≤ av + 20 := by have := hbv.out; omega
    have bv2 : av + 20 ≤ bv := by have := hbv.out; omega
    by_cases hlt : bv ≤ n
    · have hltz : (bv : Int) ≤ (n : Int) := by omega
      have hc := HN.out av bv dk wr (by omega) S1.out (by omega) (by omega) (by omega)
      rw [hds, ← HNN.out] at hc
      have r1 : IntKind.i64.wrap ((bv : Int) + 20) = (bv : Int) + 20 := by rw [IntKind.wrap_i64]; omega
      go_wp2_with (go_at_fn 74; refine hc.mono ?_; rintro e w1 ⟨rfl, hw1, hz1⟩)
      go_roundg (n - bv)
      case measure => omega
      case rel =>
        refine ⟨bv, bv + 20, fu', Sort.insertionSort (ltOf cf) dk av bv, rfl, by first | rfl | go_num | (congr 1; omega), rfl, by omega, Nat.le_refl _, by have := HF.out; omega, by rw [hz1]; exact HNN.out, hw1, ?_⟩
        show _ = _
        rw [← HB.out, HF.out, Stab.blkLoop, if_pos (by have := hbv.out; omega), hbv.out]
    · have hltz : ¬ (bv : Int) ≤ (n : Int) := by omega
      have hc := HN.out av n dk wr (by omega) S1.out (by omega) (by omega) (by omega)
      rw [hds, ← HNN.out] at hc
      obtain ⟨D0, hD0⟩ : ∃ q, q = Sort.insertionSort (ltOf cf) dk av n := ⟨_, rfl⟩
      rw [← hD0] at hc
      have HD : Hid (D0 = Stab.blkLoop (ltOf cf) 20 n (n + 1) d 0) := by
        show _ = _
        rw [← HB.out, HF.out, Stab.blkLoop, if_neg (by have := hbv.out; omega), hD0]
      clear hD0 HB HF hfu
      go_wp2_with (go_at_fn 74; refine hc.mono ?_; rintro e w1 ⟨rfl, hw1, hz1⟩)
      have S2 : Aside (SWK enc k w0 blk off D0 w1) := hw1
      have z0 : D0.size ≤ n := by omega
      have z1 : n ≤ D0.size := by omega
      clear hw1 S1 hz1 hc
      go_loopg [6] n (fun kx s6 wr => ∃ (s fu : Nat) (dk : Array α), s6 = .int .i64 s ∧ 0 < s ∧ s ≤ 2 * n + 20 ∧ n < s + fu ∧ n - s ≤ kx ∧ dk.size ≤ n ∧ n ≤ dk.size ∧ Aside (SWK enc k w0 blk off dk wr) ∧ Hid (Stab.mergeLoop (ltOf cf) n fu dk s = Stab.mergeLoop (ltOf cf) n (n + 1) D0 20))
      case atStart => exact ⟨20, n + 1, D0, by first | rfl | go_num, by omega, by omega, by omega, by omega, z0, z1, S2, rfl⟩
      case round =>
        clear S2 z0 z1
        obtain ⟨s, fu, dk, rfl, hs0, hs2, hfu, hkx, hd1, hd2, S1, HM⟩ := hrel
        by_cases hlt : s < n
        · have hltz : (s : Int) < (n : Int) := by omega
          obtain ⟨fu', HF⟩ : ∃ q, Hid (fu = q + 1) := ⟨fu - 1, (by show _ = _; omega)⟩
          have q1 : IntKind.i64.wrap (2 * (s : Int)) = 2 * (s : Int) := by rw [IntKind.wrap_i64]; omega
          obtain ⟨s2, hs2'⟩ : ∃ q, q = 2 * s := ⟨_, rfl⟩
          have HS2 : Hid (s2 = 2 * s) := hs2'
          have zs2 : 2 * (s : Int) = (s2 : Int) := by omega
          have s21 : s2 ≤ 2 * s := by omega
          have s22 : 2 * s ≤ s2 := by omega
          clear hs2'
          have q2 : IntKind.i64.wrap (s2 : Int) = (s2 : Int) := by rw [IntKind.wrap_i64]; omega
          go_wp2
          go_loopg [7, 8] n (fun kx s7 s8 wr => ∃ (av bv fu2 : Nat) (dj : Array α), s7 = .int .i64 av ∧ s8 = .int .i64 bv ∧ Hid (bv = av + 2 * s) ∧ av ≤ n ∧ n - av ≤ kx ∧ n - av < fu2 ∧ dj.size ≤ n ∧ n ≤ dj.size ∧ Aside (SWK enc k w0 blk off dj wr) ∧ Hid (Stab.passLoop (ltOf cf) s n fu2 dj av = Stab.passLoop (ltOf cf) s n (n + 1) dk 0))
          case atStart => exact ⟨0, s2, n + 1, dk, by first | rfl | go_num, by first | rfl | go_num, (show _ = _ from by rw [HS2.out]; omega), by omega, by omega, by omega, hd1, hd2, S1, rfl⟩
          case round =>
            clear S1 hd1 hd2
            obtain ⟨av, bv, fu2, dj, rfl, rfl, hbv, han, hkx2, hfu2, hd1, hd2, S1, HP⟩ := hrel
            obtain ⟨fu2', HF2⟩ : ∃ q, Hid (fu2 = q + 1) := ⟨fu2 - 1, (by show _ = _; omega)⟩
            have bv1 : bv ≤ av + 2 * s := by have := hbv.out; omega
            have bv2 : av + 2 * s ≤ bv := by have := hbv.out; omega
            have r0 : IntKind.i64.wrap ((av : Int) + (s : Int)) = (av : Int) + (s : Int) := by rw [IntKind.wrap_i64]; omega
            by_cases hlt2 : bv ≤ n
            · have hltz2 : (bv : Int) ≤ (n : Int) := by omega
              have hc := stab_symMerge LL.out enc cf g cb blk off cap d0 w0 eg HC.out R (n + 1) av (av + s) bv dj wr (by omega) (by omega) S1.out (by omega) (by omega) (by omega) (by omega)
              rw [show dj.size = n by omega, show ((av + s : Nat) : Int) = (av : Int) + (s : Int) by omega] at hc
              have r1 : IntKind.i64.wrap ((bv : Int) + (s2 : Int)) = (bv : Int) + (s2 : Int) := by rw [IntKind.wrap_i64]; omega
              go_wp2_with (go_at_fn 75; refine hc.mono ?_; rintro e w2 ⟨rfl, hw2⟩)
              go_roundg (n - bv)
              case measure => omega
              case rel =>
                refine ⟨bv, bv + s2, fu2', Stab.symMerge (ltOf cf) (n + 1) dj av (av + s) bv, rfl, by first | rfl | go_num | (congr 1; omega), (show _ = _ from by rw [HS2.out]), by omega, Nat.le_refl _, by have := HF2.out; omega, by rw [Stab.size_symMerge]; omega, by rw [Stab.size_symMerge]; omega, hw2, ?_⟩
                show _ = _
                rw [← HP.out, HF2.out, Stab.passLoop, if_pos (by omega), hbv.out]
            · have hltz2 : ¬ (bv : Int) ≤ (n : Int) := by omega
              have r3 : IntKind.i64.wrap ((s : Int) * 2) = (s : Int) * 2 := by rw [IntKind.wrap_i64]; omega
              by_cases hm : av + s < n
              · have hmz : (av : Int) + (s : Int) < (n : Int) := by omega
                have hc := stab_symMerge LL.out enc cf g cb blk off cap d0 w0 eg HC.out R (n + 1) av (av + s) n dj wr (by omega) (by omega) S1.out (by omega) (by omega) (by omega) (by omega)
                rw [show dj.size = n by omega, show ((av + s : Nat) : Int) = (av : Int) + (s : Int) by omega] at hc
                go_wp2_with (go_at_fn 75; refine hc.mono ?_; rintro e w2 ⟨rfl, hw2⟩)
                go_roundg (n - 2 * s)
                case measure => omega
                case rel =>
                  refine ⟨2 * s, fu', Stab.symMerge (ltOf cf) (n + 1) dj av (av + s) n, by first | rfl | go_num | (congr 1; omega), by omega, by omega, by have := HF.out; omega, Nat.le_refl _, by rw [Stab.size_symMerge]; omega, by rw [Stab.size_symMerge]; omega, hw2, ?_⟩
                  show _ = _
                  rw [← HM.out, HF.out, Stab.mergeLoop, if_pos hlt, ← HP.out, HF2.out, Stab.passLoop, if_neg (by omega), if_pos hm]
              · have hmz : ¬ (av : Int) + (s : Int) < (n : Int) := by omega
                go_wp2
                go_roundg (n - 2 * s)
                case measure => omega
                case rel =>
                  refine ⟨2 * s, fu', dj, by first | rfl | go_num | (congr 1; omega), by omega, by omega, by have := HF.out; omega, Nat.le_refl _, hd1, hd2, S1, ?_⟩
                  show _ = _
                  rw [← HM.out, HF.out, Stab.mergeLoop, if_pos hlt, ← HP.out, HF2.out, Stab.passLoop, if_neg (by omega), if_neg hm]
        · have hltz : ¬ (s : Int) < (n : Int) := by omega
          go_wp2
          go_end0
          refine ⟨rfl, ?_⟩
          have e : Stab.stable (ltOf cf) d n = dk := by
            unfold Stab.stable
            rw [← HD.out, ← HM.out]
            cases fu with
            | zero => rfl
            | succ fu => rw [Stab.mergeLoop, if_neg hlt]
          rw [e]
          exact S1.out
set_option maxHeartbeats 8000000 in
set_option maxRecDepth 1000000 in
theorem stab_SortStableFunc {P : Program} {k : Nat} (L : StabP P k) (enc : α → List Value) (cf : α → α → Int) (g : Nat) (cb : Array Value) (blk off cap : Nat) (d0 : Array α) (w0 : World)
    (eg : ∀ args w, (callFunc g args).run P w = .ok (.enter g args) w) (hcmp : CmpLays P g cb enc k cf blk off d0.size w0) (R : RowK enc k w0 blk off d0) (d : Array α) (w : World)
    (HI : ∀ (a b : Nat) (dk : Array α) (wk : World), d0.size = dk.size → SWK enc k w0 blk off dk wk → a ≤ b → b ≤ dk.size → dk.size < 4611686018427387904 →
      Calls P 74 #[.slice (some ⟨blk, off, none⟩) dk.size cap, .int .i64 a, .int .i64 b, .func (.func g) #[] cb] wk fun e w' => e = .returned (.tuple #[]) ∧ SWK enc k w0 blk off (Sort.insertionSort (ltOf cf) dk a b) w' ∧ (Sort.insertionSort (ltOf cf) dk a b).size = dk.size)
    (hs : d0.size = d.size) (S : SWK enc k w0 blk off d w) (hsz : d.size < 4611686018427387904) :
    Calls P 43 #[.slice (some ⟨blk, off, none⟩) d.size cap, .func (.func g) #[] cb] w fun e w' => e = .returned (.tuple #[]) ∧ SWK enc k w0 blk off (Stab.stable (ltOf cf) d d.size) w' := by
  have hc := stab_stable L enc cf g cb blk off cap d0 w0 eg hcmp R d w HI hs S hsz
  obtain ⟨mixed, F43, F62, F75, F77, F78, e43, e62, e74, e75, e77, e78, t0, a0, z0, v0, t3, a3, z3, v3, t4, a4, z4, v4, t24, a24, z24, v24, t68, a68, z68, v68, t96, a96, z96, v96, a37, z37⟩ := L
  generalize Stab.stable (ltOf cf) d d.size = r at hc ⊢
  clear S hcmp HI hs
  go_enter F43, Try.ntmps43
  go_wp2_with (go_at_fn 62; refine hc.mono ?_; rintro e w1 ⟨rfl, hw1⟩)
  go_end0
  exact ⟨rfl, hw1⟩
end Go.Proofs.Ytepndcpncndjdaa
