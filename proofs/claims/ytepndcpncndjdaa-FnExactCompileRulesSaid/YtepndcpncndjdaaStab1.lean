/- The walks of slices.SortStableFunc's functions (swapRangeCmpFunc, rotateCmpFunc, symMergeCmpFunc, stableCmpFunc) at a program that bears them, from a world of the sort's to a world of the sort's. -/
import Derived.Test.YtepndcpncndjdaaProg
import Derived.Test.YtepndcpncndjdaaStabList
import Derived.Shelf.SlSortCmp.KitK
import Derived.Sort.WalkB2
import Derived.Sort.WalkB12
import Derived.Deep.LoopGhost
namespace Go.Proofs.Ytepndcpncndjdaa
open Go.Shelf Go.RowKit Go.Lib Go.Sort
variable {α : Type} [Inhabited α]
/-- The program P bears the sort's functions, and its types are as here, the elements of k cells. -/
def StabP (P : Program) (k : Nat) : Prop :=
  P.follows .mixedOrders = true ∧
  P.funcs[43]? = some Try.f43 ∧
  P.funcs[62]? = some Try.f62 ∧
  P.funcs[75]? = some Try.f75 ∧
  P.funcs[77]? = some Try.f77 ∧
  P.funcs[78]? = some Try.f78 ∧
  (∀ args w, (callFunc 43 args).run P w = .ok (.enter 43 args) w) ∧
  (∀ args w, (callFunc 62 args).run P w = .ok (.enter 62 args) w) ∧
  (∀ args w, (callFunc 74 args).run P w = .ok (.enter 74 args) w) ∧
  (∀ args w, (callFunc 75 args).run P w = .ok (.enter 75 args) w) ∧
  (∀ args w, (callFunc 77 args).run P w = .ok (.enter 77 args) w) ∧
  (∀ args w, (callFunc 78 args).run P w = .ok (.enter 78 args) w) ∧
  P.underlying 0 = some (TypeDesc.tuple #[]) ∧
  (∀ w, (isAgg 0).run P w = .ok false w) ∧
  (∀ w, (Go.sizeOf 0).run P w = .ok 1 w) ∧
  (∀ w, (zeroValue 0).run P w = .ok (Value.tuple #[]) w) ∧
  P.underlying 3 = some (TypeDesc.int IntKind.i64) ∧
  (∀ w, (isAgg 3).run P w = .ok false w) ∧
  (∀ w, (Go.sizeOf 3).run P w = .ok 1 w) ∧
  (∀ w, (zeroValue 3).run P w = .ok (Value.int IntKind.i64 0) w) ∧
  P.underlying 4 = some TypeDesc.bool ∧
  (∀ w, (isAgg 4).run P w = .ok false w) ∧
  (∀ w, (Go.sizeOf 4).run P w = .ok 1 w) ∧
  (∀ w, (zeroValue 4).run P w = .ok (Value.bool false) w) ∧
  P.underlying 24 = some (TypeDesc.slice 37) ∧
  (∀ w, (isAgg 24).run P w = .ok false w) ∧
  (∀ w, (Go.sizeOf 24).run P w = .ok 1 w) ∧
  (∀ w, (zeroValue 24).run P w = .ok (Value.slice none 0 0) w) ∧
  P.underlying 68 = some (TypeDesc.func #[37, 37] #[3] false) ∧
  (∀ w, (isAgg 68).run P w = .ok false w) ∧
  (∀ w, (Go.sizeOf 68).run P w = .ok 1 w) ∧
  (∀ w, (zeroValue 68).run P w = .ok Value.nilFunc w) ∧
  P.underlying 96 = some (TypeDesc.int IntKind.u64) ∧
  (∀ w, (isAgg 96).run P w = .ok false w) ∧
  (∀ w, (Go.sizeOf 96).run P w = .ok 1 w) ∧
  (∀ w, (zeroValue 96).run P w = .ok (Value.int IntKind.u64 0) w) ∧
  (∀ w, (isAgg 37).run P w = .ok true w) ∧
  (∀ w, (Go.sizeOf 37).run P w = .ok k w)
theorem stabP : StabP Try.prog 8 :=
  ⟨(by kernel_rfl), Try.func43, Try.func62, Try.func75, Try.func77, Try.func78, (enters_of Try.func43 (by kernel_rfl) rfl), (enters_of Try.func62 (by kernel_rfl) rfl), (enters_of Try.func74 (by kernel_rfl) rfl), (enters_of Try.func75 (by kernel_rfl) rfl), (enters_of Try.func77 (by kernel_rfl) rfl), (enters_of Try.func78 (by kernel_rfl) rfl), Try.underlying0, Try.isAgg0, Try.sizeOf0, Try.zeroValue0, Try.underlying3, Try.isAgg3, Try.sizeOf3, Try.zeroValue3, Try.underlying4, Try.isAgg4, Try.sizeOf4, Try.zeroValue4, Try.underlying24, Try.isAgg24, Try.sizeOf24, Try.zeroValue24, Try.underlying68, Try.isAgg68, Try.sizeOf68, Try.zeroValue68, Try.underlying96, Try.isAgg96, Try.sizeOf96, Try.zeroValue96, Try.isAgg37, Try.sizeOf37⟩
set_option maxHeartbeats 4000000 in
set_option maxRecDepth 1000000 in
theorem stab_swapRange {P : Program} {k : Nat} (L : StabP P k) (enc : α → List Value) (g : Nat) (cb : Array Value) (blk off cap a b n : Nat) (d0 d : Array α) (w0 w : World)
    (R : RowK enc k w0 blk off d0) (hs : d0.size = d.size) (S : SWK enc k w0 blk off d w) (ha : a + n ≤ d.size) (hb : b + n ≤ d.size) (hsz : d.size < 4611686018427387904) :
    Calls P 78 #[.slice (some ⟨blk, off, none⟩) d.size cap, .int .i64 a, .int .i64 b, .int .i64 n, .func (.func g) #[] cb] w fun e w' => e = .returned (.tuple #[]) ∧ SWK enc k w0 blk off (Stab.swapRange d a b n) w' := by
  obtain ⟨mixed, F43, F62, F75, F77, F78, e43, e62, e74, e75, e77, e78, t0, a0, z0, v0, t3, a3, z3, v3, t4, a4, z4, v4, t24, a24, z24, v24, t68, a68, z68, v68, t96, a96, z96, v96, a37, z37⟩ := L
  have S0 : Aside (SWK enc k w0 blk off d w) := S
  clear S
  go_enter F78, Try.ntmps78
  go_wp2
  go_loopg [10] n (fun kx s10 wr => ∃ (i : Nat) (dk : Array α), s10 = .int .i64 i ∧ i + kx = n ∧ dk.size = d.size ∧ Aside (SWK enc k w0 blk off dk wr) ∧ Stab.swapFrom dk a b kx i = Stab.swapRange d a b n)
  case atStart => exact ⟨0, d, rfl, by omega, rfl, S0, rfl⟩
  case round =>
    clear S0
    obtain ⟨i, dk, rfl, hkx, hds, S1, heq⟩ := hrel
    by_cases hlt : (i : Int) < (n : Int)
    · go_wp2_with fail
      have ea44 : ((a : Int) + (i : Int)).toNat = a + i := by omega
      have pa44 : (0 : Int) ≤ (a : Int) + (i : Int) := by omega
      have ba44 : (a : Int) + (i : Int) < (d.size : Int) := by omega
      have ra44 : IntKind.i64.wrap ((a : Int) + (i : Int)) = (a : Int) + (i : Int) := by rw [IntKind.wrap_i64]; omega
      have ec44 : ((b : Int) + (i : Int)).toNat = b + i := by omega
      have pc44 : (0 : Int) ≤ (b : Int) + (i : Int) := by omega
      have bc44 : (b : Int) + (i : Int) < (d.size : Int) := by omega
      have rc44 : IntKind.i64.wrap ((b : Int) + (i : Int)) = (b : Int) + (i : Int) := by rw [IntKind.wrap_i64]; omega
      have S2 : Aside (SWK enc k w0 blk off (swp dk (a + i) (b + i)) ((wr.drew.setCells blk (off + (a + i) * k) (enc dk[b + i]!)).setCells blk (off + (b + i) * k) (enc dk[a + i]!))) := S1.out.swapped R (a + i) (b + i) (by omega) (by omega)
      have l44a := S1.out.ld1 R (by omega) P (a + i) (by omega)
      have l44b := S1.out.ld1 R (by omega) P (b + i) (by omega)
      have s44a := S1.out.st1 R (by omega) P (a + i) (by omega) dk[b + i]!
      have s44b := S1.out.st2 R (by omega) P (a + i) (b + i) (by omega) (by omega) dk[b + i]! dk[a + i]!
      have n44a : (enc dk[a + i]!).length = k := R.hk _
      have n44b : (enc dk[b + i]!).length = k := R.hk _
      generalize enc dk[a + i]! = cI44 at S2 l44a s44b n44a
      generalize enc dk[b + i]! = cJ44 at S2 l44b s44a s44b n44b
      clear S1
      go_wp2_with fail
      go_big_region_o
      clear l44a l44b s44a s44b
      generalize (wr.drew.setCells blk (off + (a + i) * k) cJ44).setCells blk (off + (b + i) * k) cI44 = w2 at S2 ⊢
      go_wp2
      go_roundg (n - (i + 1))
      case measure => omega
      case rel =>
        obtain ⟨kx', rfl⟩ : ∃ q, gk = q + 1 := ⟨gk - 1, by omega⟩
        rw [Stab.swapFrom] at heq
        exact ⟨i + 1, swp dk (a + i) (b + i), by simp, by omega, by rw [size_swp]; exact hds, S2, by rw [show n - (i + 1) = kx' by omega]; exact heq⟩
    · go_wp2
      go_end0
      refine ⟨rfl, ?_⟩
      obtain rfl : gk = 0 := by omega
      rw [← heq]
      exact S1.out
set_option maxHeartbeats 4000000 in
set_option maxRecDepth 1000000 in
theorem stab_rotate {P : Program} {k : Nat} (L : StabP P k) (enc : α → List Value) (g : Nat) (cb : Array Value) (blk off cap a m b : Nat) (d0 d : Array α) (w0 w : World)
    (R : RowK enc k w0 blk off d0) (hs : d0.size = d.size) (S : SWK enc k w0 blk off d w) (ham : a < m) (hmb : m < b) (hb : b ≤ d.size) (hsz : d.size < 4611686018427387904) :
    Calls P 77 #[.slice (some ⟨blk, off, none⟩) d.size cap, .int .i64 a, .int .i64 m, .int .i64 b, .func (.func g) #[] cb] w fun e w' => e = .returned (.tuple #[]) ∧ SWK enc k w0 blk off (Stab.rotate d a m b) w' := by
  have LL : Aside (StabP P k) := L
  obtain ⟨mixed, F43, F62, F75, F77, F78, e43, e62, e74, e75, e77, e78, t0, a0, z0, v0, t3, a3, z3, v3, t4, a4, z4, v4, t24, a24, z24, v24, t68, a68, z68, v68, t96, a96, z96, v96, a37, z37⟩ := L
  have S0 : Aside (SWK enc k w0 blk off d w) := S
  clear S
  have ra : IntKind.i64.wrap ((m : Int) - (a : Int)) = (m : Int) - (a : Int) := by rw [IntKind.wrap_i64]; omega
  have rb : IntKind.i64.wrap ((b : Int) - (m : Int)) = (b : Int) - (m : Int) := by rw [IntKind.wrap_i64]; omega
  go_enter F77, Try.ntmps77
  go_wp2
  go_loopg [10, 11] (b - a) (fun kx s10 s11 wr => ∃ (i j fu : Nat) (dk : Array α), s10 = .int .i64 i ∧ s11 = .int .i64 j ∧ 0 < i ∧ 0 < j ∧ i ≤ m ∧ m + j ≤ d.size ∧ i + j ≤ kx ∧ i + j < fu ∧ dk.size = d.size ∧ Aside (SWK enc k w0 blk off dk wr) ∧ Stab.rotLoop m fu dk i j = Stab.rotLoop m (b - a + 1) d (m - a) (b - m))
  case atStart =>
    exact ⟨m - a, b - m, b - a + 1, d, by first | go_num | (congr 1; omega), by first | go_num | (congr 1; omega), by omega, by omega, by omega, by omega, by omega, by omega, rfl, S0, rfl⟩
  case round =>
    clear S0 ra rb
    obtain ⟨i, j, fu, dk, rfl, rfl, hi0, hj0, him, hmj, hkx, hfu, hds, S1, heq⟩ := hrel
    obtain ⟨fu', rfl⟩ : ∃ q, fu = q + 1 := ⟨fu - 1, by omega⟩
    rw [Stab.rotLoop] at heq
    have HE : Aside _ := heq
    clear heq
    have r1 : IntKind.i64.wrap ((m : Int) - (i : Int)) = (m : Int) - (i : Int) := by rw [IntKind.wrap_i64]; omega
    by_cases hne : i = j
    · subst hne
      have hc := stab_swapRange LL.out enc g cb blk off cap (m - i) m i d0 dk w0 wr R (by omega) S1.out (by omega) (by omega) (by omega)
      rw [hds, show ((m - i : Nat) : Int) = (m : Int) - (i : Int) by omega] at hc
      go_wp2_with (go_at_fn 78; refine hc.mono ?_; rintro e w1 ⟨rfl, hw1⟩)
      go_end0
      refine ⟨rfl, ?_⟩
      have h := HE.out
      rw [if_pos trivial] at h
      unfold Stab.rotate
      rw [← h]
      exact hw1
    · have hnez : ¬ ((i : Int) = (j : Int)) := by omega
      by_cases hgt : (i : Int) > (j : Int)
      · have hc := stab_swapRange LL.out enc g cb blk off cap (m - i) m j d0 dk w0 wr R (by omega) S1.out (by omega) (by omega) (by omega)
        rw [hds, show ((m - i : Nat) : Int) = (m : Int) - (i : Int) by omega] at hc
        have r2 : IntKind.i64.wrap ((i : Int) - (j : Int)) = (i : Int) - (j : Int) := by rw [IntKind.wrap_i64]; omega
        go_wp2_with (go_at_fn 78; refine hc.mono ?_; rintro e w1 ⟨rfl, hw1⟩)
        go_roundg (i - j + j)
        case measure => omega
        case rel =>
          have h := HE.out
          rw [if_neg hne, if_pos (by omega)] at h
          exact ⟨i - j, j, fu', Stab.swapRange dk (m - i) m j, by first | go_num | (congr 1; omega), rfl, by omega, by omega, by omega, by omega, by omega, by omega, by rw [Stab.size_swapRange]; exact hds, hw1, h⟩
      · have hc := stab_swapRange LL.out enc g cb blk off cap (m - i) (m + j - i) i d0 dk w0 wr R (by omega) S1.out (by omega) (by omega) (by omega)
        rw [hds, show ((m - i : Nat) : Int) = (m : Int) - (i : Int) by omega, show ((m + j - i : Nat) : Int) = (m : Int) + (j : Int) - (i : Int) by omega] at hc
        have r2 : IntKind.i64.wrap ((j : Int) - (i : Int)) = (j : Int) - (i : Int) := by rw [IntKind.wrap_i64]; omega
        have r3 : IntKind.i64.wrap ((m : Int) + (j : Int)) = (m : Int) + (j : Int) := by rw [IntKind.wrap_i64]; omega
        have r4 : IntKind.i64.wrap ((m : Int) + (j : Int) - (i : Int)) = (m : Int) + (j : Int) - (i : Int) := by rw [IntKind.wrap_i64]; omega
        go_wp2_with (go_at_fn 78; refine hc.mono ?_; rintro e w1 ⟨rfl, hw1⟩)
        go_roundg (i + (j - i))
        case measure => omega
        case rel =>
          have h := HE.out
          rw [if_neg hne, if_neg (by omega)] at h
          exact ⟨i, j - i, fu', Stab.swapRange dk (m - i) (m + j - i) i, rfl, by first | go_num | (congr 1; omega), by omega, by omega, by omega, by omega, by omega, by omega, by rw [Stab.size_swapRange]; exact hds, hw1, h⟩
set_option maxHeartbeats 8000000 in
set_option maxRecDepth 1000000 in
theorem stab_symA {P : Program} {k : Nat} (L : StabP P k) (enc : α → List Value) (cf : α → α → Int) (g : Nat) (cb : Array Value) (blk off cap : Nat) (d0 : Array α) (w0 : World)
    (eg : ∀ args w, (callFunc g args).run P w = .ok (.enter g args) w) (hcmp : CmpLays P g cb enc k cf blk off d0.size w0) (R : RowK enc k w0 blk off d0)
    (a m b : Nat) (d : Array α) (w : World) (hs : d0.size = d.size) (S : SWK enc k w0 blk off d w) (hm : m = a + 1) (hmb : m < b) (hb : b ≤ d.size) (hsz : d.size < 4611686018427387904) :
    Calls P 75 #[.slice (some ⟨blk, off, none⟩) d.size cap, .int .i64 a, .int .i64 m, .int .i64 b, .func (.func g) #[] cb] w fun e w' => e = .returned (.tuple #[]) ∧ SWK enc k w0 blk off (Stab.shUp (Stab.bsr (fun h => ltOf cf d[h]! d[a]!) m b - 1 - a) d a) w' := by
  obtain ⟨mixed, F43, F62, F75, F77, F78, e43, e62, e74, e75, e77, e78, t0, a0, z0, v0, t3, a3, z3, v3, t4, a4, z4, v4, t24, a24, z24, v24, t68, a68, z68, v68, t96, a96, z96, v96, a37, z37⟩ := L
  have HC : Aside _ := hcmp
  have S0 : Aside (SWK enc k w0 blk off d w) := S
  clear S hcmp
  have hm1 : m ≤ a + 1 := by omega
  have hm2 : a + 1 ≤ m := by omega
  clear hm
  have ra : IntKind.i64.wrap ((m : Int) - (a : Int)) = (m : Int) - (a : Int) := by rw [IntKind.wrap_i64]; omega
  have rb : (m : Int) - (a : Int) = 1 := by omega
  have rb' : ((m : Int) - (a : Int) == 1) = true := by rw [rb]; rfl
  go_enter F75, Try.ntmps75
  go_wp2
  clear ra rb rb'
  go_loopg [10, 11] (b - m) (fun kx s10 s11 wr => ∃ (i j : Nat), s10 = .int .i64 i ∧ s11 = .int .i64 j ∧ m ≤ i ∧ i ≤ j ∧ j ≤ b ∧ j - i ≤ kx ∧ Aside (SWK enc k w0 blk off d wr) ∧ Hid (Stab.bsr (fun h => ltOf cf d[h]! d[a]!) i j = Stab.bsr (fun h => ltOf cf d[h]! d[a]!) m b))
  case atStart => exact ⟨m, b, by first | rfl | go_num | (congr 1; omega), by first | rfl | go_num | (congr 1; omega), Nat.le_refl _, by omega, Nat.le_refl _, Nat.le_refl _, S0, rfl⟩
  case round =>
    clear S0
    obtain ⟨i, j, rfl, rfl, hlo, hij, hhi, hkx, S1, HB⟩ := hrel
    by_cases hlt : i < j
    · have hltz : (i : Int) < (j : Int) := by omega
      have r1 : IntKind.i64.wrap ((i : Int) + (j : Int)) = (i : Int) + (j : Int) := by rw [IntKind.wrap_i64]; omega
      have r2 : IntKind.u64.wrap ((i : Int) + (j : Int)) = (i : Int) + (j : Int) := by rw [IntKind.wrap_u64]; omega
      obtain ⟨h, hh_⟩ : ∃ q, q = (i + j) / 2 := ⟨_, rfl⟩
      have hb1 : i ≤ h := by omega
      have hb2 : h < j := by omega
      have z1 : ((i : Int) + (j : Int)) / 2 = (h : Int) := by omega
      have r3 : IntKind.i64.wrap ((h : Int)) = (h : Int) := by rw [IntKind.wrap_i64]; omega
      have hh : Hid (h = (i + j) / 2) := hh_
      clear hh_
      cases hlv : ltOf cf d[h]! d[a]! with
      | true =>
        have eaA1 : ((h : Int)).toNat = h := by omega
        have paA1 : (0 : Int) ≤ (h : Int) := by omega
        have baA1 : (h : Int) < (d.size : Int) := by omega
        have raA1 : IntKind.i64.wrap ((h : Int)) = (h : Int) := by rw [IntKind.wrap_i64]; omega
        have ecA1 : ((a : Int)).toNat = a := by omega
        have pcA1 : (0 : Int) ≤ (a : Int) := by omega
        have bcA1 : (a : Int) < (d.size : Int) := by omega
        have rcA1 : IntKind.i64.wrap ((a : Int)) = (a : Int) := by rw [IntKind.wrap_i64]; omega
        obtain ⟨xA1, hxA1⟩ : ∃ x, x = d[h]! := ⟨_, rfl⟩
        obtain ⟨yA1, hyA1⟩ : ∃ x, x = d[a]! := ⟨_, rfl⟩
        have lA1a := S1.out.ld R (by omega) P (h) (by omega)
        have lA1b := S1.out.ld R (by omega) P (a) (by omega)
        rw [← hxA1] at lA1a
        rw [← hyA1] at lA1b
        have hcA1 := S1.out.cmp HC.out (by omega) xA1 yA1
        have hvA1 : cf xA1 yA1 < 0 := by rw [hxA1, hyA1]; exact of_decide_eq_true hlv
        have hdA1 : decide (cf xA1 yA1 < 0) = true := decide_eq_true hvA1
        clear hxA1 hyA1
        go_wp2_with fail
        go_quiet_grown (first | (go_at_fn g; refine Calls.grown_of (hcA1 _ _)))
        have S2 : Aside (SWK enc k w0 blk off d (grow (wr.drewN nq) osq)) := S1.out.grown nq osq
        clear lA1a lA1b hcA1 S1
        generalize grow (wr.drewN nq) osq = w2 at S2 ⊢
        clear nq osq
        go_wp2
        go_roundg (j - (h + 1))
        case measure => omega
        case rel => exact ⟨h + 1, j, by first | go_num | (congr 1; omega), rfl, by omega, by omega, by omega, Nat.le_refl _, S2, (show Hid _ from by rw [← HB.out]; exact (Stab.bsr_up (fun h => ltOf cf d[h]! d[a]!) i j h hh.out hlt (by first | exact hlv | (show (!_) = _; rw [hlv]; rfl))).symm)⟩
      | false =>
        have eaA0 : ((h : Int)).toNat = h := by omega
        have paA0 : (0 : Int) ≤ (h : Int) := by omega
        have baA0 : (h : Int) < (d.size : Int) := by omega
        have raA0 : IntKind.i64.wrap ((h : Int)) = (h : Int) := by rw [IntKind.wrap_i64]; omega
        have ecA0 : ((a : Int)).toNat = a := by omega
        have pcA0 : (0 : Int) ≤ (a : Int) := by omega
        have bcA0 : (a : Int) < (d.size : Int) := by omega
        have rcA0 : IntKind.i64.wrap ((a : Int)) = (a : Int) := by rw [IntKind.wrap_i64]; omega
        obtain ⟨xA0, hxA0⟩ : ∃ x, x = d[h]! := ⟨_, rfl⟩
        obtain ⟨yA0, hyA0⟩ : ∃ x, x = d[a]! := ⟨_, rfl⟩
        have lA0a := S1.out.ld R (by omega) P (h) (by omega)
        have lA0b := S1.out.ld R (by omega) P (a) (by omega)
        rw [← hxA0] at lA0a
        rw [← hyA0] at lA0b
        have hcA0 := S1.out.cmp HC.out (by omega) xA0 yA0
        have hvA0 : ¬ cf xA0 yA0 < 0 := by rw [hxA0, hyA0]; exact of_decide_eq_false hlv
        have hdA0 : decide (cf xA0 yA0 < 0) = false := decide_eq_false hvA0
        clear hxA0 hyA0
        go_wp2_with fail
        go_quiet_grown (first | (go_at_fn g; refine Calls.grown_of (hcA0 _ _)))
        have S2 : Aside (SWK enc k w0 blk off d (grow (wr.drewN nq) osq)) := S1.out.grown nq osq
        clear lA0a lA0b hcA0 S1
        generalize grow (wr.drewN nq) osq = w2 at S2 ⊢
        clear nq osq
        go_wp2
        go_roundg (h - i)
        case measure => omega
        case rel => exact ⟨i, h, rfl, by first | rfl | go_num | (congr 1; omega), by omega, by omega, by omega, Nat.le_refl _, S2, (show Hid _ from by rw [← HB.out]; exact (Stab.bsr_dn (fun h => ltOf cf d[h]! d[a]!) i j h hh.out hlt (by first | exact hlv | (show (!_) = _; rw [hlv]; rfl))).symm)⟩
    · have hltz : ¬ (i : Int) < (j : Int) := by omega
      obtain rfl : i = j := by omega
      have hbs : Hid (i = Stab.bsr (fun h => ltOf cf d[h]! d[a]!) m b) := by show _ = _; rw [← HB.out, Stab.bsr, dif_neg (by omega)]
      clear HB
      have ri : IntKind.i64.wrap ((i : Int) - 1) = (i : Int) - 1 := by rw [IntKind.wrap_i64]; omega
      go_wp2
      go_loopg [13] (i - 1 - a) (fun kx s13 wr => ∃ (t : Nat) (dk : Array α), s13 = .int .i64 t ∧ t + kx = i - 1 ∧ a ≤ t ∧ dk.size = d.size ∧ Aside (SWK enc k w0 blk off dk wr) ∧ Stab.shUp kx dk t = Stab.shUp (i - 1 - a) d a)
      case atStart => exact ⟨a, d, rfl, by omega, Nat.le_refl _, rfl, S1, rfl⟩
      case round =>
        clear S1
        obtain ⟨t, dk, rfl, htk, hat, hds, S1, heq⟩ := hrel
        by_cases ht : (t : Int) < (i : Int) - 1
        · go_wp2_with fail
          have eaAx : ((t : Int)).toNat = t := by omega
          have paAx : (0 : Int) ≤ (t : Int) := by omega
          have baAx : (t : Int) < (d.size : Int) := by omega
          have raAx : IntKind.i64.wrap ((t : Int)) = (t : Int) := by rw [IntKind.wrap_i64]; omega
          have ecAx : ((t : Int) + 1).toNat = t + 1 := by omega
          have pcAx : (0 : Int) ≤ (t : Int) + 1 := by omega
          have bcAx : (t : Int) + 1 < (d.size : Int) := by omega
          have rcAx : IntKind.i64.wrap ((t : Int) + 1) = (t : Int) + 1 := by rw [IntKind.wrap_i64]; omega
          have S2 : Aside (SWK enc k w0 blk off (swp dk (t) (t + 1)) ((wr.drew.setCells blk (off + (t) * k) (enc dk[t + 1]!)).setCells blk (off + (t + 1) * k) (enc dk[t]!))) := S1.out.swapped R (t) (t + 1) (by omega) (by omega)
          have lAxa := S1.out.ld1 R (by omega) P (t) (by omega)
          have lAxb := S1.out.ld1 R (by omega) P (t + 1) (by omega)
          have sAxa := S1.out.st1 R (by omega) P (t) (by omega) dk[t + 1]!
          have sAxb := S1.out.st2 R (by omega) P (t) (t + 1) (by omega) (by omega) dk[t + 1]! dk[t]!
          have nAxa : (enc dk[t]!).length = k := R.hk _
          have nAxb : (enc dk[t + 1]!).length = k := R.hk _
          generalize enc dk[t]! = cIAx at S2 lAxa sAxb nAxa
          generalize enc dk[t + 1]! = cJAx at S2 lAxb sAxa sAxb nAxb
          clear S1
          go_wp2_with fail
          go_big_region_o
          clear lAxa lAxb sAxa sAxb
          generalize (wr.drew.setCells blk (off + (t) * k) cJAx).setCells blk (off + (t + 1) * k) cIAx = w2 at S2 ⊢
          go_wp2
          go_roundg (i - 1 - (t + 1))
          case measure => omega
          case rel =>
            obtain ⟨kx', rfl⟩ : ∃ q, gk = q + 1 := ⟨gk - 1, by omega⟩
            rw [Stab.shUp] at heq
            exact ⟨t + 1, swp dk t (t + 1), by simp, by omega, by omega, by rw [size_swp]; exact hds, S2, by rw [show i - 1 - (t + 1) = kx' by omega]; exact heq⟩
        · go_wp2
          (try simp only [Exit.inBlock, Exit.then]); refine bodyPost_ret (results_none rfl _ _ _) rfl ?_
          refine ⟨rfl, ?_⟩
          obtain rfl : gk = 0 := by omega
          rw [← hbs.out, ← heq]
          exact S1.out
set_option maxHeartbeats 8000000 in
set_option maxRecDepth 1000000 in
theorem stab_symB {P : Program} {k : Nat} (L : StabP P k) (enc : α → List Value) (cf : α → α → Int) (g : Nat) (cb : Array Value) (blk off cap : Nat) (d0 : Array α) (w0 : World)
    (eg : ∀ args w, (callFunc g args).run P w = .ok (.enter g args) w) (hcmp : CmpLays P g cb enc k cf blk off d0.size w0) (R : RowK enc k w0 blk off d0)
    (a m b : Nat) (d : Array α) (w : World) (hs : d0.size = d.size) (S : SWK enc k w0 blk off d w) (ham : a < m) (hm : ¬ m - a = 1) (hmb : b = m + 1) (hb : b ≤ d.size) (hsz : d.size < 4611686018427387904) :
    Calls P 75 #[.slice (some ⟨blk, off, none⟩) d.size cap, .int .i64 a, .int .i64 m, .int .i64 b, .func (.func g) #[] cb] w fun e w' => e = .returned (.tuple #[]) ∧ SWK enc k w0 blk off (Stab.shDown (m - Stab.bsr (fun h => !ltOf cf d[m]! d[h]!) a m) d m) w' := by
  obtain ⟨mixed, F43, F62, F75, F77, F78, e43, e62, e74, e75, e77, e78, t0, a0, z0, v0, t3, a3, z3, v3, t4, a4, z4, v4, t24, a24, z24, v24, t68, a68, z68, v68, t96, a96, z96, v96, a37, z37⟩ := L
  have HC : Aside _ := hcmp
  have S0 : Aside (SWK enc k w0 blk off d w) := S
  clear S hcmp
  have ra : IntKind.i64.wrap ((m : Int) - (a : Int)) = (m : Int) - (a : Int) := by rw [IntKind.wrap_i64]; omega
  have rb : ¬ (m : Int) - (a : Int) = 1 := by omega
  have rb' : ((m : Int) - (a : Int) == 1) = false := beq_eq_false_iff_ne.2 rb
  have rc : IntKind.i64.wrap ((b : Int) - (m : Int)) = (b : Int) - (m : Int) := by rw [IntKind.wrap_i64]; omega
  have rd : (b : Int) - (m : Int) = 1 := by omega
  have rd' : ((b : Int) - (m : Int) == 1) = true := by rw [rd]; rfl
  have hm1 : b ≤ m + 1 := by omega
  have hm2 : m + 1 ≤ b := by omega
  clear hmb
  go_enter F75, Try.ntmps75
  go_wp2
  clear ra rb rc rd rb' rd'
  go_loopg [14, 15] (m - a) (fun kx s10 s11 wr => ∃ (i j : Nat), s10 = .int .i64 i ∧ s11 = .int .i64 j ∧ a ≤ i ∧ i ≤ j ∧ j ≤ m ∧ j - i ≤ kx ∧ Aside (SWK enc k w0 blk off d wr) ∧ Hid (Stab.bsr (fun h => !ltOf cf d[m]! d[h]!) i j = Stab.bsr (fun h => !ltOf cf d[m]! d[h]!) a m))
  case atStart => exact ⟨a, m, by first | rfl | go_num | (congr 1; omega), by first | rfl | go_num | (congr 1; omega), Nat.le_refl _, by omega, Nat.le_refl _, Nat.le_refl _, S0, rfl⟩
  case round =>
    clear S0
    obtain ⟨i, j, rfl, rfl, hlo, hij, hhi, hkx, S1, HB⟩ := hrel
    by_cases hlt : i < j
    · have hltz : (i : Int) < (j : Int) := by omega
      have r1 : IntKind.i64.wrap ((i : Int) + (j : Int)) = (i : Int) + (j : Int) := by rw [IntKind.wrap_i64]; omega
      have r2 : IntKind.u64.wrap ((i : Int) + (j : Int)) = (i : Int) + (j : Int) := by rw [IntKind.wrap_u64]; omega
      obtain ⟨h, hh_⟩ : ∃ q, q = (i + j) / 2 := ⟨_, rfl⟩
      have hb1 : i ≤ h := by omega
      have hb2 : h < j := by omega
      have z1 : ((i : Int) + (j : Int)) / 2 = (h : Int) := by omega
      have r3 : IntKind.i64.wrap ((h : Int)) = (h : Int) := by rw [IntKind.wrap_i64]; omega
      have hh : Hid (h = (i + j) / 2) := hh_
      clear hh_
      cases hlv : ltOf cf d[m]! d[h]! with
      | true =>
        have eaB1 : ((m : Int)).toNat = m := by omega
        have paB1 : (0 : Int) ≤ (m : Int) := by omega
        have baB1 : (m : Int) < (d.size : Int) := by omega
        have raB1 : IntKind.i64.wrap ((m : Int)) = (m : Int) := by rw [IntKind.wrap_i64]; omega
        have ecB1 : ((h : Int)).toNat = h := by omega
        have pcB1 : (0 : Int) ≤ (h : Int) := by omega
        have bcB1 : (h : Int) < (d.size : Int) := by omega
        have rcB1 : IntKind.i64.wrap ((h : Int)) = (h : Int) := by rw [IntKind.wrap_i64]; omega
        obtain ⟨xB1, hxB1⟩ : ∃ x, x = d[m]! := ⟨_, rfl⟩
        obtain ⟨yB1, hyB1⟩ : ∃ x, x = d[h]! := ⟨_, rfl⟩
        have lB1a := S1.out.ld R (by omega) P (m) (by omega)
        have lB1b := S1.out.ld R (by omega) P (h) (by omega)
        rw [← hxB1] at lB1a
        rw [← hyB1] at lB1b
        have hcB1 := S1.out.cmp HC.out (by omega) xB1 yB1
        have hvB1 : cf xB1 yB1 < 0 := by rw [hxB1, hyB1]; exact of_decide_eq_true hlv
        have hdB1 : decide (cf xB1 yB1 < 0) = true := decide_eq_true hvB1
        clear hxB1 hyB1
        go_wp2_with fail
        go_quiet_grown (first | (go_at_fn g; refine Calls.grown_of (hcB1 _ _)))
        have S2 : Aside (SWK enc k w0 blk off d (grow (wr.drewN nq) osq)) := S1.out.grown nq osq
        clear lB1a lB1b hcB1 S1
        generalize grow (wr.drewN nq) osq = w2 at S2 ⊢
        clear nq osq
        go_wp2
        go_roundg (h - i)
        case measure => omega
        case rel => exact ⟨i, h, rfl, by first | rfl | go_num | (congr 1; omega), by omega, by omega, by omega, Nat.le_refl _, S2, (show Hid _ from by rw [← HB.out]; exact (Stab.bsr_dn (fun h => !ltOf cf d[m]! d[h]!) i j h hh.out hlt (by first | exact hlv | (show (!_) = _; rw [hlv]; rfl))).symm)⟩
      | false =>
        have eaB0 : ((m : Int)).toNat = m := by omega
        have paB0 : (0 : Int) ≤ (m : Int) := by omega
        have baB0 : (m : Int) < (d.size : Int) := by omega
        have raB0 : IntKind.i64.wrap ((m : Int)) = (m : Int) := by rw [IntKind.wrap_i64]; omega
        have ecB0 : ((h : Int)).toNat = h := by omega
        have pcB0 : (0 : Int) ≤ (h : Int) := by omega
        have bcB0 : (h : Int) < (d.size : Int) := by omega
        have rcB0 : IntKind.i64.wrap ((h : Int)) = (h : Int) := by rw [IntKind.wrap_i64]; omega
        obtain ⟨xB0, hxB0⟩ : ∃ x, x = d[m]! := ⟨_, rfl⟩
        obtain ⟨yB0, hyB0⟩ : ∃ x, x = d[h]! := ⟨_, rfl⟩
        have lB0a := S1.out.ld R (by omega) P (m) (by omega)
        have lB0b := S1.out.ld R (by omega) P (h) (by omega)
        rw [← hxB0] at lB0a
        rw [← hyB0] at lB0b
        have hcB0 := S1.out.cmp HC.out (by omega) xB0 yB0
        have hvB0 : ¬ cf xB0 yB0 < 0 := by rw [hxB0, hyB0]; exact of_decide_eq_false hlv
        have hdB0 : decide (cf xB0 yB0 < 0) = false := decide_eq_false hvB0
        clear hxB0 hyB0
        go_wp2_with fail
        go_quiet_grown (first | (go_at_fn g; refine Calls.grown_of (hcB0 _ _)))
        have S2 : Aside (SWK enc k w0 blk off d (grow (wr.drewN nq) osq)) := S1.out.grown nq osq
        clear lB0a lB0b hcB0 S1
        generalize grow (wr.drewN nq) osq = w2 at S2 ⊢
        clear nq osq
        go_wp2
        go_roundg (j - (h + 1))
        case measure => omega
        case rel => exact ⟨h + 1, j, by first | go_num | (congr 1; omega), rfl, by omega, by omega, by omega, Nat.le_refl _, S2, (show Hid _ from by rw [← HB.out]; exact (Stab.bsr_up (fun h => !ltOf cf d[m]! d[h]!) i j h hh.out hlt (by first | exact hlv | (show (!_) = _; rw [hlv]; rfl))).symm)⟩
    · have hltz : ¬ (i : Int) < (j : Int) := by omega
      obtain rfl : i = j := by omega
      have hbs : Hid (i = Stab.bsr (fun h => !ltOf cf d[m]! d[h]!) a m) := by show _ = _; rw [← HB.out, Stab.bsr, dif_neg (by omega)]
      clear HB
      go_wp2
      go_loopg [17] (m - i) (fun kx s17 wr => ∃ (t : Nat) (dk : Array α), s17 = .int .i64 t ∧ i + kx = t ∧ t ≤ m ∧ dk.size = d.size ∧ Aside (SWK enc k w0 blk off dk wr) ∧ Stab.shDown kx dk t = Stab.shDown (m - i) d m)
      case atStart => exact ⟨m, d, rfl, by omega, Nat.le_refl _, rfl, S1, rfl⟩
      case round =>
        clear S1
        obtain ⟨t, dk, rfl, htk, hat, hds, S1, heq⟩ := hrel
        by_cases ht : (t : Int) > (i : Int)
        · go_wp2_with fail
          have eaBx : ((t : Int)).toNat = t := by omega
          have paBx : (0 : Int) ≤ (t : Int) := by omega
          have baBx : (t : Int) < (d.size : Int) := by omega
          have raBx : IntKind.i64.wrap ((t : Int)) = (t : Int) := by rw [IntKind.wrap_i64]; omega
          have ecBx : ((t : Int) - 1).toNat = t - 1 := by omega
          have pcBx : (0 : Int) ≤ (t : Int) - 1 := by omega
          have bcBx : (t : Int) - 1 < (d.size : Int) := by omega
          have rcBx : IntKind.i64.wrap ((t : Int) - 1) = (t : Int) - 1 := by rw [IntKind.wrap_i64]; omega
          have S2 : Aside (SWK enc k w0 blk off (swp dk (t) (t - 1)) ((wr.drew.setCells blk (off + (t) * k) (enc dk[t - 1]!)).setCells blk (off + (t - 1) * k) (enc dk[t]!))) := S1.out.swapped R (t) (t - 1) (by omega) (by omega)
          have lBxa := S1.out.ld1 R (by omega) P (t) (by omega)
          have lBxb := S1.out.ld1 R (by omega) P (t - 1) (by omega)
          have sBxa := S1.out.st1 R (by omega) P (t) (by omega) dk[t - 1]!
          have sBxb := S1.out.st2 R (by omega) P (t) (t - 1) (by omega) (by omega) dk[t - 1]! dk[t]!
          have nBxa : (enc dk[t]!).length = k := R.hk _
          have nBxb : (enc dk[t - 1]!).length = k := R.hk _
          generalize enc dk[t]! = cIBx at S2 lBxa sBxb nBxa
          generalize enc dk[t - 1]! = cJBx at S2 lBxb sBxa sBxb nBxb
          clear S1
          go_wp2_with fail
          go_big_region_o
          clear lBxa lBxb sBxa sBxb
          generalize (wr.drew.setCells blk (off + (t) * k) cJBx).setCells blk (off + (t - 1) * k) cIBx = w2 at S2 ⊢
          go_wp2
          go_roundg (t - 1 - i)
          case measure => omega
          case rel =>
            obtain ⟨kx', rfl⟩ : ∃ q, gk = q + 1 := ⟨gk - 1, by omega⟩
            rw [Stab.shDown] at heq
            exact ⟨t - 1, swp dk t (t - 1), by first | go_num | (congr 1; omega), by omega, by omega, by rw [size_swp]; exact hds, S2, by rw [show t - 1 - i = kx' by omega]; exact heq⟩
        · go_wp2
          (try simp only [Exit.inBlock, Exit.then]); refine bodyPost_ret (results_none rfl _ _ _) rfl ?_
          refine ⟨rfl, ?_⟩
          obtain rfl : gk = 0 := by omega
          rw [← hbs.out, ← heq]
          exact S1.out
end Go.Proofs.Ytepndcpncndjdaa
