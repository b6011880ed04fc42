/- slices.symMergeCmpFunc, whole. -/
import Derived.Test.YtepndcpncndjdaaStab1
import Derived.Sort.WalkB2
import Derived.Sort.WalkB12
import Derived.Deep.LoopGhost
import Derived.Deep.DeepCutAuto
namespace Go.Proofs.Ytepndcpncndjdaa
open Go.Shelf Go.RowKit Go.Lib Go.Sort
variable {α : Type} [Inhabited α]
set_option maxHeartbeats 8000000 in
set_option maxRecDepth 1000000 in
theorem stab_symMerge {P : Program} {k : Nat} (L : StabP P k) (enc : α → List Value) (cf : α → α → Int) (g : Nat) (cb : Array Value) (blk off cap : Nat) (d0 : Array α) (w0 : World)
    (eg : ∀ args w, (callFunc g args).run P w = .ok (.enter g args) w) (hcmp : CmpLays P g cb enc k cf blk off d0.size w0) (R : RowK enc k w0 blk off d0) :
    ∀ (f a m b : Nat) (d : Array α) (w : World), b - a ≤ f → d0.size = d.size → SWK enc k w0 blk off d w → a < m → m < b → b ≤ d.size → d.size < 4611686018427387904 →
    Calls P 75 #[.slice (some ⟨blk, off, none⟩) d.size cap, .int .i64 a, .int .i64 m, .int .i64 b, .func (.func g) #[] cb] w fun e w' => e = .returned (.tuple #[]) ∧ SWK enc k w0 blk off (Stab.symMerge (ltOf cf) f d a m b) w' := by
  intro f
  induction f with
  | zero => intro a m b d w hf _ _ ham hmb; exact absurd hf (by omega)
  | succ f ih =>
    intro a m b d w hf hs S ham hmb hb hsz
    by_cases h1 : m - a = 1
    · rw [Stab.symMerge_one (ltOf cf) f d a m b h1]
      exact stab_symA L enc cf g cb blk off cap d0 w0 eg hcmp R a m b d w hs S (by omega) hmb hb hsz
    · by_cases h2 : b - m = 1
      · rw [Stab.symMerge_two (ltOf cf) f d a m b h1 h2]
        exact stab_symB L enc cf g cb blk off cap d0 w0 eg hcmp R a m b d w hs S ham h1 (by omega) hb hsz
      · have LL : Aside (StabP P k) := L
        obtain ⟨mixed, F43, F62, F75, F77, F78, e43, e62, e74, e75, e77, e78, t0, a0, z0, v0, t3, a3, z3, v3, t4, a4, z4, v4, t24, a24, z24, v24, t68, a68, z68, v68, t96, a96, z96, v96, a37, z37⟩ := L
        have IH : Aside _ := ih
        have HC : Aside _ := hcmp
        have S0 : Aside (SWK enc k w0 blk off d w) := S
        clear S ih
        obtain ⟨mid, hmid⟩ : ∃ q, q = (a + b) / 2 := ⟨_, rfl⟩
        obtain ⟨n, hn⟩ : ∃ q, q = mid + m := ⟨_, rfl⟩
        obtain ⟨lo, hlo⟩ : ∃ q, q = if m > mid then n - b else a := ⟨_, rfl⟩
        obtain ⟨hi, hhi⟩ : ∃ q, q = if m > mid then mid else m := ⟨_, rfl⟩
        have m1 : a < mid := by omega
        have m2 : mid < b := by omega
        have m3 : 2 * mid ≤ a + b := by omega
        have m4 : a + b ≤ 2 * mid + 1 := by omega
        have nl : n ≤ mid + m := by omega
        have nu : mid + m ≤ n := by omega
        have bnd : lo ≤ hi ∧ a ≤ lo ∧ hi ≤ n ∧ 1 ≤ n ∧ n ≤ lo + b ∧ hi < b ∧ lo ≤ m ∧ lo ≤ mid := by
          rw [hlo, hhi]
          by_cases c : m > mid
          · rw [if_pos c, if_pos c]; omega
          · rw [if_neg c, if_neg c]; omega
        obtain ⟨b1, b2, b3, b4, b5, b6, b7, b8⟩ := bnd
        have zmid : ((a : Int) + (b : Int)) / 2 = (mid : Int) := by omega
        have zn : (mid : Int) + (m : Int) = (n : Int) := by omega
        have HQ : Hid (mid = (a + b) / 2 ∧ n = mid + m ∧ lo = (if m > mid then n - b else a) ∧ hi = (if m > mid then mid else m)) := ⟨hmid, hn, hlo, hhi⟩
        clear hmid hn
        have q1 : IntKind.i64.wrap ((a : Int) + (b : Int)) = (a : Int) + (b : Int) := by rw [IntKind.wrap_i64]; omega
        have q2 : IntKind.u64.wrap ((a : Int) + (b : Int)) = (a : Int) + (b : Int) := by rw [IntKind.wrap_u64]; omega
        have q3 : IntKind.i64.wrap (mid : Int) = (mid : Int) := by rw [IntKind.wrap_i64]; omega
        have q4 : IntKind.i64.wrap (n : Int) = (n : Int) := by rw [IntKind.wrap_i64]; omega
        have ra : IntKind.i64.wrap ((m : Int) - (a : Int)) = (m : Int) - (a : Int) := by rw [IntKind.wrap_i64]; omega
        have rb : ¬ (m : Int) - (a : Int) = 1 := by omega
        have rb' : ((m : Int) - (a : Int) == 1) = false := beq_eq_false_iff_ne.2 rb
        have rc : IntKind.i64.wrap ((b : Int) - (m : Int)) = (b : Int) - (m : Int) := by rw [IntKind.wrap_i64]; omega
        have rd : ¬ (b : Int) - (m : Int) = 1 := by omega
        have rd' : ((b : Int) - (m : Int) == 1) = false := beq_eq_false_iff_ne.2 rd
        have q5 : IntKind.i64.wrap ((n : Int) - 1) = (n : Int) - 1 := by rw [IntKind.wrap_i64]; omega
        go_enter F75, Try.ntmps75
        go_upto_if 140 with fail
        clear ra rb rc rd rb' rd' q1 q2 zmid zn
        go_cut [20, 21] (fun s20 s21 wc => s20 = .int .i64 lo ∧ s21 = .int .i64 hi ∧ Aside (SWK enc k w0 blk off d wc))
        case first =>
          as_aux_lemma =>
            by_cases c : m > mid
            · have cz : (m : Int) > (mid : Int) := by omega
              have c1 : IntKind.i64.wrap ((n : Int) - (b : Int)) = (n : Int) - (b : Int) := by rw [IntKind.wrap_i64]; omega
              have e1 : (n : Int) - (b : Int) = (lo : Int) := by rw [hlo, if_pos c]; omega
              have e2 : mid = hi := by rw [hhi, if_pos c]
              clear hlo hhi
              go_wp2_with fail
              go_meet
              case rel => exact ⟨by first | rfl | rw [e1], by first | rfl | rw [e2], S0⟩
            · have cz : ¬ (m : Int) > (mid : Int) := by omega
              have e1 : a = lo := by rw [hlo, if_neg c]
              have e2 : m = hi := by rw [hhi, if_neg c]
              clear hlo hhi
              have E : Hid (a = lo ∧ m = hi) := ⟨e1, e2⟩
              clear e1 e2
              go_wp2_with fail
              go_meet
              case rel => exact ⟨by first | rfl | rw [E.out.1], by first | rfl | rw [E.out.2], S0⟩
        case rest =>
          as_aux_lemma =>
            obtain ⟨rfl, rfl, S1⟩ := hcut
            clear S0 hlo hhi
            have S0 := S1
            clear S1
            go_wp2
            go_loopg [20, 21] (hi - lo) (fun kx s10 s11 wr => ∃ (i j : Nat), s10 = .int .i64 i ∧ s11 = .int .i64 j ∧ lo ≤ i ∧ i ≤ j ∧ j ≤ hi ∧ j - i ≤ kx ∧ Aside (SWK enc k w0 blk off d wr) ∧ Hid (Stab.bsr (fun c => !ltOf cf d[n - 1 - c]! d[c]!) i j = Stab.bsr (fun c => !ltOf cf d[n - 1 - c]! d[c]!) lo hi))
            case atStart => exact ⟨lo, hi, by first | rfl | go_num | (congr 1; omega), by first | rfl | go_num | (congr 1; omega), Nat.le_refl _, by omega, Nat.le_refl _, Nat.le_refl _, S0, rfl⟩
            case round =>
              as_aux_lemma =>
                clear S0
                obtain ⟨i, j, rfl, rfl, hlo, hij, hhi, hkx, S1, HB⟩ := hrel
                by_cases hlt : i < j
                · have hltz : (i : Int) < (j : Int) := by omega
                  have r1 : IntKind.i64.wrap ((i : Int) + (j : Int)) = (i : Int) + (j : Int) := by rw [IntKind.wrap_i64]; omega
                  have r2 : IntKind.u64.wrap ((i : Int) + (j : Int)) = (i : Int) + (j : Int) := by rw [IntKind.wrap_u64]; omega
                  obtain ⟨h, hh_⟩ : ∃ q, q = (i + j) / 2 := ⟨_, rfl⟩
                  have hb1 : i ≤ h := by omega
                  have hb2 : h < j := by omega
                  have z1 : ((i : Int) + (j : Int)) / 2 = (h : Int) := by omega
                  have r3 : IntKind.i64.wrap ((h : Int)) = (h : Int) := by rw [IntKind.wrap_i64]; omega
                  have hh : Hid (h = (i + j) / 2) := hh_
                  clear hh_
                  obtain ⟨pcx, hx_⟩ : ∃ q, q = n - 1 - h := ⟨_, rfl⟩
                  have zx : (n : Int) - 1 - (h : Int) = (pcx : Int) := by omega
                  have xb : pcx < b := by omega
                  have hx : Hid (pcx = n - 1 - h) := hx_
                  clear hx_
                  cases hlv : ltOf cf d[pcx]! d[h]! with
                  | true =>
                    as_aux_lemma =>
                      have eaC1 : ((pcx : Int)).toNat = pcx := by omega
                      have paC1 : (0 : Int) ≤ (pcx : Int) := by omega
                      have baC1 : (pcx : Int) < (d.size : Int) := by omega
                      have raC1 : IntKind.i64.wrap ((pcx : Int)) = (pcx : Int) := by rw [IntKind.wrap_i64]; omega
                      have ecC1 : ((h : Int)).toNat = h := by omega
                      have pcC1 : (0 : Int) ≤ (h : Int) := by omega
                      have bcC1 : (h : Int) < (d.size : Int) := by omega
                      have rcC1 : IntKind.i64.wrap ((h : Int)) = (h : Int) := by rw [IntKind.wrap_i64]; omega
                      obtain ⟨xC1, hxC1⟩ : ∃ x, x = d[pcx]! := ⟨_, rfl⟩
                      obtain ⟨yC1, hyC1⟩ : ∃ x, x = d[h]! := ⟨_, rfl⟩
                      have lC1a := S1.out.ld R (by omega) P (pcx) (by omega)
                      have lC1b := S1.out.ld R (by omega) P (h) (by omega)
                      rw [← hxC1] at lC1a
                      rw [← hyC1] at lC1b
                      have hcC1 := S1.out.cmp HC.out (by omega) xC1 yC1
                      have hvC1 : cf xC1 yC1 < 0 := by rw [hxC1, hyC1]; exact of_decide_eq_true hlv
                      have hdC1 : decide (cf xC1 yC1 < 0) = true := decide_eq_true hvC1
                      clear hxC1 hyC1
                      go_wp2_with fail
                      go_quiet_grown (first | (go_at_fn g; refine Calls.grown_of (hcC1 _ _)))
                      have S2 : Aside (SWK enc k w0 blk off d (grow (wr.drewN nq) osq)) := S1.out.grown nq osq
                      clear lC1a lC1b hcC1 S1
                      generalize grow (wr.drewN nq) osq = w2 at S2 ⊢
                      clear nq osq
                      go_wp2
                      go_roundg (h - i)
                      case measure => omega
                      case rel => exact ⟨i, h, rfl, by first | rfl | go_num | (congr 1; omega), by omega, by omega, by omega, Nat.le_refl _, S2, (show Hid _ from by rw [← HB.out]; exact (Stab.bsr_dn (fun c => !ltOf cf d[n - 1 - c]! d[c]!) i j h hh.out hlt (by show (!ltOf cf d[n - 1 - h]! d[h]!) = _; rw [← hx.out, hlv]; rfl)).symm)⟩
                  | false =>
                    as_aux_lemma =>
                      have eaC0 : ((pcx : Int)).toNat = pcx := by omega
                      have paC0 : (0 : Int) ≤ (pcx : Int) := by omega
                      have baC0 : (pcx : Int) < (d.size : Int) := by omega
                      have raC0 : IntKind.i64.wrap ((pcx : Int)) = (pcx : Int) := by rw [IntKind.wrap_i64]; omega
                      have ecC0 : ((h : Int)).toNat = h := by omega
                      have pcC0 : (0 : Int) ≤ (h : Int) := by omega
                      have bcC0 : (h : Int) < (d.size : Int) := by omega
                      have rcC0 : IntKind.i64.wrap ((h : Int)) = (h : Int) := by rw [IntKind.wrap_i64]; omega
                      obtain ⟨xC0, hxC0⟩ : ∃ x, x = d[pcx]! := ⟨_, rfl⟩
                      obtain ⟨yC0, hyC0⟩ : ∃ x, x = d[h]! := ⟨_, rfl⟩
                      have lC0a := S1.out.ld R (by omega) P (pcx) (by omega)
                      have lC0b := S1.out.ld R (by omega) P (h) (by omega)
                      rw [← hxC0] at lC0a
                      rw [← hyC0] at lC0b
                      have hcC0 := S1.out.cmp HC.out (by omega) xC0 yC0
                      have hvC0 : ¬ cf xC0 yC0 < 0 := by rw [hxC0, hyC0]; exact of_decide_eq_false hlv
                      have hdC0 : decide (cf xC0 yC0 < 0) = false := decide_eq_false hvC0
                      clear hxC0 hyC0
                      go_wp2_with fail
                      go_quiet_grown (first | (go_at_fn g; refine Calls.grown_of (hcC0 _ _)))
                      have S2 : Aside (SWK enc k w0 blk off d (grow (wr.drewN nq) osq)) := S1.out.grown nq osq
                      clear lC0a lC0b hcC0 S1
                      generalize grow (wr.drewN nq) osq = w2 at S2 ⊢
                      clear nq osq
                      go_wp2
                      go_roundg (j - (h + 1))
                      case measure => omega
                      case rel => exact ⟨h + 1, j, by first | go_num | (congr 1; omega), rfl, by omega, by omega, by omega, Nat.le_refl _, S2, (show Hid _ from by rw [← HB.out]; exact (Stab.bsr_up (fun c => !ltOf cf d[n - 1 - c]! d[c]!) i j h hh.out hlt (by show (!ltOf cf d[n - 1 - h]! d[h]!) = _; rw [← hx.out, hlv]; rfl)).symm)⟩
                · have hltz : ¬ (i : Int) < (j : Int) := by omega
                  obtain rfl : i = j := by omega
                  have hbs : Hid (i = Stab.bsr (fun c => !ltOf cf d[n - 1 - c]! d[c]!) lo hi) := by show _ = _; rw [← HB.out, Stab.bsr, dif_neg (by omega)]
                  clear HB
                  have sb : lo ≤ i ∧ i ≤ hi := ⟨hlo, hhi⟩
                  obtain ⟨e, he⟩ : ∃ q, q = n - i := ⟨_, rfl⟩
                  have HE : Hid (e = n - i) := he
                  have e1 : e + i = n := by omega
                  clear he
                  have ze : (n : Int) - (i : Int) = (e : Int) := by omega
                  have re : IntKind.i64.wrap (e : Int) = (e : Int) := by rw [IntKind.wrap_i64]; omega
                  obtain ⟨d1, hd1⟩ : ∃ q, q = if i < m ∧ m < e then Stab.rotate d i m e else d := ⟨_, rfl⟩
                  have s1 : d1.size = d.size := by rw [hd1]; split <;> simp only [Stab.size_rotate]
                  obtain ⟨d2, hd2⟩ : ∃ q, q = if a < i ∧ i < mid then Stab.symMerge (ltOf cf) f d1 a i mid else d1 := ⟨_, rfl⟩
                  have s2 : d2.size = d.size := by rw [hd2]; split <;> simp only [Stab.size_symMerge, s1]
                  have FIN : Hid (Stab.symMerge (ltOf cf) (f + 1) d a m b = if mid < e ∧ e < b then Stab.symMerge (ltOf cf) f d2 mid e b else d2) :=
                    Stab.symMerge_go (ltOf cf) f d a m b h1 h2 mid n lo hi i e HQ.out.1 HQ.out.2.1 HQ.out.2.2.1 HQ.out.2.2.2 hbs.out HE.out d1 d2 hd1 hd2
                  clear hbs
                  have D1 : Hid (d1 = if i < m ∧ m < e then Stab.rotate d i m e else d) := hd1
                  have D2 : Hid (d2 = if a < i ∧ i < mid then Stab.symMerge (ltOf cf) f d1 a i mid else d1) := hd2
                  clear hd1 hd2
                  obtain ⟨t1, ht1⟩ : ∃ q, q = decide (i < m ∧ m < e) := ⟨_, rfl⟩
                  obtain ⟨t2, ht2⟩ : ∃ q, q = decide (a < i ∧ i < mid) := ⟨_, rfl⟩
                  have T1 : Hid (t1 = decide (i < m ∧ m < e)) := ht1
                  have T2 : Hid (t2 = decide (a < i ∧ i < mid)) := ht2
                  clear ht1 ht2
                  go_upto_region 39 with fail
                  go_cut [185] (fun st wc => st = .bool t1 ∧ Aside (SWK enc k w0 blk off d wc))
                  case first =>
                    as_aux_lemma =>
                      by_cases c1 : i < m
                      · have c1z : (i : Int) < (m : Int) := by omega
                        by_cases c2 : m < e
                        · have c2z : (m : Int) < (e : Int) := by omega
                          go_wp2_with fail
                          go_meet
                          case rel => exact ⟨by rw [T1.out, decide_eq_true ⟨c1, c2⟩], S1⟩
                        · have c2z : ¬ (m : Int) < (e : Int) := by omega
                          go_wp2_with fail
                          go_meet
                          case rel => exact ⟨by rw [T1.out, decide_eq_false (fun h => c2 h.2)], S1⟩
                      · have c1z : ¬ (i : Int) < (m : Int) := by omega
                        go_wp2_with fail
                        go_meet
                        case rel => exact ⟨by rw [T1.out, decide_eq_false (fun h => c1 h.1)], S1⟩
                  case rest =>
                    as_aux_lemma =>
                      obtain ⟨rfl, S1'⟩ := hcut
                      clear S1
                      go_upto_if 185 with fail
                      go_cut [] (fun wc => Aside (SWK enc k w0 blk off d1 wc))
                      case first =>
                        as_aux_lemma =>
                          cases t1 with
                          | true =>
                            as_aux_lemma =>
                              have c := of_decide_eq_true T1.out.symm
                              have hc := stab_rotate LL.out enc g cb blk off cap i m e d0 d w0 wc R (by omega) S1'.out (by omega) (by omega) (by omega) hsz
                              have W : Hid (d1 = Stab.rotate d i m e) := by show _ = _; rw [D1.out, if_pos c]
                              clear c
                              go_wp2_with (go_at_fn 77; refine hc.mono ?_; rintro e w1 ⟨rfl, hw1⟩)
                              go_meet
                              case rel =>
                                show SWK _ _ _ _ _ _ _
                                rw [W.out]; exact hw1
                          | false =>
                            as_aux_lemma =>
                              have W : Hid (d1 = d) := by show _ = _; rw [D1.out, if_neg (of_decide_eq_false T1.out.symm)]
                              go_wp2_with fail
                              go_meet
                              case rel =>
                                show SWK _ _ _ _ _ _ _
                                rw [W.out]; exact S1'.out
                      case rest =>
                        as_aux_lemma =>
                          have S2 : Aside (SWK enc k w0 blk off d1 wc) := hcut
                          clear S1' hcut T1 t1
                          go_upto_region 41 with fail
                          go_cut [199] (fun st wc => st = .bool t2 ∧ Aside (SWK enc k w0 blk off d1 wc))
                          case first =>
                            as_aux_lemma =>
                              by_cases c1 : a < i
                              · have c1z : (a : Int) < (i : Int) := by omega
                                by_cases c2 : i < mid
                                · have c2z : (i : Int) < (mid : Int) := by omega
                                  go_wp2_with fail
                                  go_meet
                                  case rel => exact ⟨by rw [T2.out, decide_eq_true ⟨c1, c2⟩], S2⟩
                                · have c2z : ¬ (i : Int) < (mid : Int) := by omega
                                  go_wp2_with fail
                                  go_meet
                                  case rel => exact ⟨by rw [T2.out, decide_eq_false (fun h => c2 h.2)], S2⟩
                              · have c1z : ¬ (a : Int) < (i : Int) := by omega
                                go_wp2_with fail
                                go_meet
                                case rel => exact ⟨by rw [T2.out, decide_eq_false (fun h => c1 h.1)], S2⟩
                          case rest =>
                            as_aux_lemma =>
                              obtain ⟨rfl, S2'⟩ := hcut
                              clear S2
                              go_upto_if 199 with fail
                              go_cut [] (fun wc => Aside (SWK enc k w0 blk off d2 wc))
                              case first =>
                                as_aux_lemma =>
                                  cases t2 with
                                  | true =>
                                    as_aux_lemma =>
                                      have c := of_decide_eq_true T2.out.symm
                                      have hc := IH.out a i mid d1 wc (by omega) (by omega) S2'.out (by omega) (by omega) (by omega) (by omega)
                                      rw [s1] at hc
                                      have W : Hid (d2 = Stab.symMerge (ltOf cf) f d1 a i mid) := by show _ = _; rw [D2.out, if_pos c]
                                      clear c
                                      go_wp2_with (go_at_fn 75; refine hc.mono ?_; rintro e w1 ⟨rfl, hw1⟩)
                                      go_meet
                                      case rel =>
                                        show SWK _ _ _ _ _ _ _
                                        rw [W.out]; exact hw1
                                  | false =>
                                    as_aux_lemma =>
                                      have W : Hid (d2 = d1) := by show _ = _; rw [D2.out, if_neg (of_decide_eq_false T2.out.symm)]
                                      go_wp2_with fail
                                      go_meet
                                      case rel =>
                                        show SWK _ _ _ _ _ _ _
                                        rw [W.out]; exact S2'.out
                              case rest =>
                                as_aux_lemma =>
                                  have S3 : Aside (SWK enc k w0 blk off d2 wc) := hcut
                                  clear S2' hcut T2 t2
                                  by_cases c1 : mid < e
                                  · have c1z : (mid : Int) < (e : Int) := by omega
                                    by_cases c2 : e < b
                                    · have c2z : (e : Int) < (b : Int) := by omega
                                      have hc := IH.out mid e b d2 wc (by omega) (by omega) S3.out (by omega) (by omega) (by omega) (by omega)
                                      rw [s2] at hc
                                      go_wp2_with (go_at_fn 75; refine hc.mono ?_; rintro e w1 ⟨rfl, hw1⟩)
                                      go_end0
                                      exact ⟨rfl, by rw [FIN.out, if_pos ⟨c1, c2⟩]; exact hw1⟩
                                    · have c2z : ¬ (e : Int) < (b : Int) := by omega
                                      go_wp2_with fail
                                      go_end0
                                      exact ⟨rfl, by rw [FIN.out, if_neg (fun h => c2 h.2)]; exact S3.out⟩
                                  · have c1z : ¬ (mid : Int) < (e : Int) := by omega
                                    go_wp2_with fail
                                    go_end0
                                    exact ⟨rfl, by rw [FIN.out, if_neg (fun h => c1 h.1)]; exact S3.out⟩

end Go.Proofs.Ytepndcpncndjdaa
