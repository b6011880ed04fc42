/- slices.SortStableFunc over a row of rules: what is behind it, in the words of the printed walks: the row bears the stable sort of what it bore, all that is older is as it was. -/
import Derived.Test.YtepndcpncndjdaaQSx0
import Derived.Test.YtepndcpncndjdaaStabCmp
import Derived.Test.YtepndcpncndjdaaStab3
import Derived.Shelf.SlSortCmp.InsertionK
namespace Go.Proofs.Ytepndcpncndjdaa.QS
open Go.RowKit Go.Shelf Go.Lib Go.Sort Go.Proofs.YtepndcpncndjdaaW.PrintWords Go.Proofs.YtepndcpncndjdaaW.PrintLast Go.Proofs.YtepndcpncndjdaaW.PrintMore
instance : Inhabited S37 := ⟨⟨0, 0, ⟨0, 0⟩, 0, 0, ⟨0, 0⟩⟩⟩
def enc37 (x : S37) : List Value := [.int .i64 x.f0, .int .i64 x.f1, .int .i64 x.f2.f0, .int .i64 x.f2.f1, .int .i64 x.f3, .int .i64 x.f4, .int .i64 x.f5.f0, .int .i64 x.f5.f1]
theorem enc37_len (x : S37) : (enc37 x).length = 8 := rfl
theorem enc37_one (x : S37) : ∀ v ∈ enc37 x, v.oneCell' = true := by
  intro v hv
  simp only [enc37, List.mem_cons, List.not_mem_nil, or_false] at hv
  rcases hv with rfl | rfl | rfl | rfl | rfl | rfl | rfl | rfl <;> rfl
/-- A world below which nothing has turned, and whose draws have not gone back, is the elder one after some draws, with blocks behind it. -/
theorem grow_of_below {w w' : World} (h : Go.RowKit.Below w.heap.size w w') (hd : w.drawn ≤ w'.drawn) : ∃ q os, w' = grow (w.drewN q) os := by
  refine ⟨w'.drawn - w.drawn, w'.heap.extract w.heap.size w'.heap.size, ?_⟩
  obtain ⟨h1, h2, h3, h4, h5⟩ := h
  cases w with
  | mk hp tp dr os ou =>
  cases w' with
  | mk hp' tp' dr' os' ou' =>
  simp only at h1 h2 h3 h4 h5 hd
  subst h1 h2 h3
  simp only [grow, World.drewN]
  have e : hp' = hp ++ hp'.extract hp.size hp'.size := by
    apply Array.ext_getElem?
    intro k
    rw [Array.getElem?_append]
    by_cases hk : k < hp.size
    · rw [if_pos hk]; exact h5 k hk
    · rw [if_neg hk, Array.getElem?_extract]
      by_cases hk2 : k < hp'.size
      · rw [if_pos (by omega)]; congr 1; omega
      · rw [if_neg (by omega)]; exact Array.getElem?_eq_none (by omega)
  rw [← e]
  congr 1
  omega
theorem cmp_lays (blk off size : Nat) (w : World) : CmpLays Try.prog 44 #[] enc37 8 cfR blk off size w := by
  intro m os dk _ x y
  have h := compareRules_callsD 7 x.f0 x.f1 x.f2.f0 x.f2.f1 x.f3 x.f4 x.f5.f0 x.f5.f1 y.f0 y.f1 y.f2.f0 y.f2.f1 y.f3 y.f4 y.f5.f0 y.f5.f1 (cfR x y) (sortWorldK enc37 8 w blk off m dk os) (cfR_eq x y)
  refine Calls.mono h ?_
  rintro e w' ⟨he, hb, hd⟩
  exact ⟨he, grow_of_below hb hd⟩
def rho : Ren := ⟨fun n => if n = 20 then 74 else n, fun n => if n = 22 then 24 else if n = 24 then 37 else if n = 25 then 68 else n, fun n => n⟩
theorem lays20 : SlLaysF0.n20 Try.prog rho where
  mixed := by kernel_rfl
  f20 := ⟨_, by kernel_rfl, Try.func74⟩
  t0 := Try.underlying0
  a0 := Try.isAgg0
  z0 := Try.sizeOf0
  v0 := Try.zeroValue0
  t3 := Try.underlying3
  a3 := Try.isAgg3
  z3 := Try.sizeOf3
  v3 := Try.zeroValue3
  t4 := Try.underlying4
  a4 := Try.isAgg4
  z4 := Try.sizeOf4
  v4 := Try.zeroValue4
  t22 := Try.underlying24
  a22 := Try.isAgg24
  z22 := Try.sizeOf24
  v22 := Try.zeroValue24
  t25 := Try.underlying68
  a25 := Try.isAgg68
  z25 := Try.sizeOf68
  v25 := Try.zeroValue68
theorem cmp_on {g : Nat} {cb : Array Value} {enc : S37 → List Value} {k : Nat} {cf : S37 → S37 → Int} {blk off size : Nat} {w w1 : World} (h : CmpLays Try.prog g cb enc k cf blk off size w) (hblk : blk < w.heap.size) {dk : Array S37} (hs : dk.size = size) (S : SWK enc k w blk off dk w1) : CmpLays Try.prog g cb enc k cf blk off size w1 := by
  obtain ⟨n, os, rfl⟩ := S
  intro m os' dk' hs' x y
  rw [sortWorldK_on enc k w blk off n m dk dk' os os' hblk (by omega)]
  exact h _ _ dk' hs' x y
theorem ins_calls (blk cap : Nat) (d0 : Array S37) (w0 : World) (R : RowK enc37 8 w0 blk 0 d0) (a b : Nat) (dk : Array S37) (wk : World) (hs : d0.size = dk.size) (S : SWK enc37 8 w0 blk 0 dk wk) (hab : a ≤ b) (hb : b ≤ dk.size) (hsz : dk.size < 4611686018427387904) :
    Calls Try.prog 74 #[.slice (some ⟨blk, 0, none⟩) dk.size cap, .int .i64 a, .int .i64 b, .func (.func 44) #[] #[]] wk fun e w' => e = .returned (.tuple #[]) ∧ SWK enc37 8 w0 blk 0 (Sort.insertionSort (ltOf cfR) dk a b) w' ∧ (Sort.insertionSort (ltOf cfR) dk a b).size = dk.size := by
  have hH := S.holds R.hblk R.hH hs.symm
  have hb2 : blk < wk.heap.size := Nat.lt_of_lt_of_le R.hblk S.le
  have h := AnyQ.insertionSortCmpFunc (P := Try.prog) (ρ := rho) lays20 8 Try.isAgg37 Try.sizeOf37 enc37 enc37_len enc37_one cfR 44 #[] blk 0 cap a b dk wk (enters_of Try.func44 (by kernel_rfl) rfl) (cmp_on (cmp_lays blk 0 dk.size w0) R.hblk rfl S) hH hb2 hab hb hsz
  refine Calls.mono h ?_
  rintro e w' ⟨he, n, os, rfl⟩
  have hz : (Sort.insertionSort (ltOf cfR) dk a b).size = dk.size := (insertionSort_holds cfR_swo dk a b hab hb).1.1
  refine ⟨he, ?_, hz⟩
  obtain ⟨n0, os0, rfl⟩ := S
  exact ⟨_, _, sortWorldK_on enc37 8 w0 blk 0 n0 n dk _ os0 os R.hblk hz⟩

theorem get37 (x : S37) (c : Nat) (hc : c < 8) : (enc37 x)[c]? = some (enc37 x)[c]! := by
  have h : c < (enc37 x).length := by rw [enc37_len]; exact hc
  rw [List.getElem?_eq_getElem h, getElem!_pos (enc37 x) c h]
theorem flat_get (xs : List S37) (inner : List Value) (h : Reps (fun x cs => cs = enc37 x) 8 xs inner) (t : Nat) (ht : t < xs.length * 8) : inner[t]? = some (flatK enc37 8 xs.toArray)[t]! := by
  have hj : t / 8 < xs.length := by omega
  have h1 := h.2 (t / 8) xs[t / 8] (List.getElem?_eq_getElem hj)
  have h2 : ((inner.drop (t / 8 * 8)).take 8)[t % 8]? = inner[t]? := by
    rw [List.getElem?_take_of_lt (by omega), List.getElem?_drop]
    congr 1
    omega
  rw [← h2, h1, get_flatK enc37 8 xs.toArray t (by simpa using ht), getElem!_pos xs.toArray (t / 8) (by simpa using hj)]
  exact get37 _ _ (by omega)
theorem reps_flat (xs : List S37) : Reps (fun x cs => cs = enc37 x) 8 xs (flatK enc37 8 xs.toArray).toList := by
  refine ⟨by simp, fun j p hp => ?_⟩
  obtain ⟨hj, hp⟩ := List.getElem?_eq_some_iff.1 hp
  apply List.ext_getElem?
  intro c
  by_cases hc : c < 8
  · rw [List.getElem?_take_of_lt hc, List.getElem?_drop, get37 p c hc, Array.getElem?_toList]
    have ht : j * 8 + c < (flatK enc37 8 xs.toArray).size := by simp; omega
    rw [Array.getElem?_eq_getElem ht, ← getElem!_pos (flatK enc37 8 xs.toArray) (j * 8 + c) ht, get_flatK _ _ _ _ (by simpa using ht)]
    rw [show (j * 8 + c) / 8 = j by omega, show (j * 8 + c) % 8 = c by omega, getElem!_pos xs.toArray j (by simpa using hj)]
    simp [hp]
  · rw [List.getElem?_eq_none (by simp; omega), List.getElem?_eq_none (by rw [enc37_len]; omega)]
theorem reps_M {w : World} {base : Nat} {ok : Nat → Prop} {xs : List S37} {inner : List Value} : Reps (k37.M w base ok) 8 xs inner ↔ Reps (fun x cs => cs = enc37 x) 8 xs inner :=
  ⟨fun h => ⟨h.1, fun j p hp => k37_openM (h.2 j p hp)⟩, fun h => ⟨h.1, fun j p hp => by rw [h.2 j p hp]; exact k37_mkM w base ok p⟩⟩
/-- A row of the call's own that is not nil, as the sort's kit speaks of it; and a row that the sort has turned, as the printed walks speak of it. -/
theorem R_sortable {w : World} {base : Nat} {ok : Nat → Prop} {v : Value} {xs : List S37} (h : Kd.R k37 37 w base ok v xs) (hb : ∃ b, v.ownBlock = some b) :
    ∃ g cap, v = .slice (some ⟨g, 0, none⟩) xs.length cap ∧ RowK enc37 8 w g 0 xs.toArray ∧ (∀ (ys : List S37) (W : World), ys.length = xs.length → SWK enc37 8 w g 0 ys.toArray W → Kd.R k37 37 W base ok v ys ∧ Go.RowKit.Below base w W) := by
  obtain ⟨hok, inner, ⟨hl, ho⟩, hr⟩ := h
  rcases ho with ⟨rfl, _⟩ | ⟨g, cap, cur, hv, hbase, hg, hn, hcap, hcur, htake⟩
  · obtain ⟨b, hb⟩ := hb
    simp [Value.ownBlock] at hb
  · have hr' := reps_M.1 hr
    have hgl : g < w.heap.size := (Array.getElem?_eq_some_iff.1 hg).1
    have hsz : k37.sz = 8 := rfl
    rw [hsz] at htake hcur hl
    have hle : xs.length * 8 ≤ cur.size := by rw [hcur]; exact Nat.mul_le_mul_right 8 hn
    have hH : HoldsK enc37 8 w g 0 xs.toArray := by
      intro j hj
      have hj' : j < xs.length * 8 := by simpa using hj
      have e := flat_get xs inner hr' j hj'
      rw [← htake, List.getElem?_take_of_lt hj', Array.getElem?_toList] at e
      refine ⟨?_, ?_⟩
      · simp only [World.cell?, hg, Nat.zero_add]
        simpa using e
      · simp only [World.frozen?, hg]
        simp
    refine ⟨g, cap, hv, ⟨enc37_len, enc37_one, hH, hgl⟩, fun ys W hys S => ?_⟩
    obtain ⟨n, os, rfl⟩ := S
    have hblk : (sortWorldK enc37 8 w g 0 n ys.toArray os).heap[g]? = some (.cells (putCells id 0 (flatK enc37 8 ys.toArray) cur) 37 (0, 0)) := by
      unfold sortWorldK putRowK putRow mapBlock grow Sort.ahead
      simp only
      rw [Array.getElem?_append, if_pos (by simpa using hgl), Array.getElem?_modify, if_pos rfl, hg]
      rfl
    have hbel : Go.RowKit.Below base w (sortWorldK enc37 8 w g 0 n ys.toArray os) := by
      refine ⟨rfl, rfl, rfl, ?_, fun k hk => ?_⟩
      · unfold sortWorldK
        rw [size_grow, size_putRowK]
        exact Nat.le_add_right _ _
      · unfold sortWorldK putRowK putRow mapBlock grow Sort.ahead
        simp only
        rw [Array.getElem?_append, if_pos (by simp; omega), Array.getElem?_modify, if_neg (by omega)]
    refine ⟨⟨hok, (flatK enc37 8 ys.toArray).toList, ⟨by simp [hsz], Or.inr ⟨g, cap, _, by rw [hys]; exact hv, hbase, hblk, by rw [hys]; exact hn, hcap, ?_, ?_⟩⟩, reps_M.2 (reps_flat ys)⟩, hbel⟩
    · simp [putCells, hsz, hcur]
    · apply List.ext_getElem?
      intro t
      have hfs : (flatK enc37 8 ys.toArray).size = ys.length * 8 := by simp
      by_cases ht : t < ys.length * 8
      · rw [hsz, List.getElem?_take_of_lt ht, Array.getElem?_toList, Array.getElem?_toList]
        simp only [putCells, Array.getElem?_mapIdx]
        rw [Array.getElem?_eq_getElem (show t < cur.size by omega), Option.map_some, if_pos ⟨Nat.zero_le _, by omega⟩, Array.getElem?_eq_getElem (show t < (flatK enc37 8 ys.toArray).size by omega)]
        congr 1
        rw [Nat.sub_zero]
        exact (getElem!_pos (flatK enc37 8 ys.toArray) t (by omega)).symm ▸ rfl
      · rw [hsz, List.getElem?_eq_none (by simp; omega), List.getElem?_eq_none (by simp; omega)]
theorem R_own_ne {w : World} {base : Nat} {ok : Nat → Prop} {v : Value} {xs : List S37} (h : Kd.R k37 37 w base ok v xs) (hx : xs ≠ []) : ∃ b, v.ownBlock = some b := by
  obtain ⟨_, inner, ⟨_, ho⟩, _⟩ := h
  rcases ho with ⟨_, hn⟩ | ⟨g, cap, cur, hv, _⟩
  · exact absurd (List.length_eq_zero_iff.1 hn) hx
  · exact ⟨g, by rw [hv]; rfl⟩
/-- slices.SortStableFunc at a row of the call's own. -/
theorem sort_calls {w : World} {base : Nat} {ok : Nat → Prop} {v : Value} {xs : List S37} (h : Kd.R k37 37 w base ok v xs) (hb : ∃ b, v.ownBlock = some b) (hsz : xs.length < 4611686018427387904) :
    Calls Try.prog 43 #[v, .func (.func 44) #[] #[]] w fun e w' => e = .returned (.tuple #[]) ∧ Kd.R k37 37 w' base ok v (Stab.isort (ltOf cfR) xs) ∧ Go.RowKit.Below base w w' := by
  obtain ⟨g, cap, hv, R, hback⟩ := R_sortable h hb
  have S := SWK.start R.hH
  have hc := stab_SortStableFunc (P := Try.prog) stabP enc37 cfR 44 #[] g 0 cap xs.toArray w (enters_of Try.func44 (by kernel_rfl) rfl) (cmp_lays g 0 _ w) R xs.toArray w (fun a b dk wk hs S hab hb hsz => ins_calls g cap xs.toArray w R a b dk wk hs S hab hb hsz) rfl S (by simpa using hsz)
  rw [hv]
  rw [show xs.toArray.size = xs.length by simp] at hc
  refine Calls.mono hc ?_
  rintro e w' ⟨he, hS⟩
  have e1 := Stab.stable_list (ltOf cfR) cfR_swo xs.toArray
  have e2 : Stab.stable (ltOf cfR) xs.toArray xs.length = (Stab.isort (ltOf cfR) xs).toArray := by
    apply Array.toList_inj.1
    have h3 : xs.toArray.size = xs.length := by simp
    rw [h3] at e1
    rw [e1]
  rw [e2] at hS
  have := hback _ _ (Stab.isort_len (ltOf cfR) xs) hS
  rw [hv] at this
  exact ⟨he, this⟩
end Go.Proofs.Ytepndcpncndjdaa.QS
