/- The reference's truth with a number. Conditions: the loft reads as it does and has no fault. The reference's prices with a number. Conditions: the market reads as it does and has no fault. The reference's prices, right notes and truths of markets. Conditions: the market reads as it does and has no fault. The reference's sizes and errors of lofts. Conditions: the loft reads as it does. The reference's small functions of layer 10. Conditions: the market reads as it does. The reference's sizes of prices, and chests that share no cake. Conditions: the market reads as it does. -/
import Derived.Test.YtenfnakhijobkaaGreatPb01
set_option linter.unusedVariables false
set_option linter.unusedSimpArgs false
namespace Go.Proofs.YtenfnakhijobkaaGreat
open Go.RowKit Go.Proofs.YtenfnakhijobkaaGreatW.PrintLast
theorem info3 : (Tryz.prog.info? 3).map (fun i => (i.zero, i.size, i.bytes)) = some (some (.int .i64 0), 1, 8) := by kernel_rfl
/-- A truth is returned, in memory of its own. -/
def RetTruth (w : World) (t : TruthD) (e : Ending) (w' : World) : Prop := ∃ tv : TruthV, e = .returned (.agg tv.cs) ∧ Fr (fun W => RdTruth W tv t) w.heap.size w' ∧ Below w.heap.size w w'

set_option maxHeartbeats 4000000 in
set_option maxRecDepth 100000 in
theorem Nth06_any (v : LoftV) (l : LoftD) (hl : LOk l) (w : World) (h : RdLoft w v l) (n : Nat) (hn : n ≤ 3000) :
    Calls Tryz.prog 90 #[.agg v.cs, .int .i64 n] w (RetTruth w (nthT l n)) := by
  obtain ⟨vl, ⟨aa, an, ac⟩, ⟨ba, bn, bc⟩, ⟨ca, cn, cc⟩, ⟨pa, pn, pc⟩, ⟨wa, wn, wc⟩⟩ := v
  have HLa : Hid (l.air.length = an) := h.air.len
  have HLc : Hid (l.cakes.length = cn) := h.cakes.len
  have han : an ≤ 6 := by have := hl.air; have := hl.last5; have := HLa.out; omega
  have hcn : cn ≤ 5 := by have := hl.cakes5; have := HLc.out; omega
  obtain ⟨i0, hi0, hz0, hz1, hz2⟩ := info_parts info3
  have HI := Lib.hid hi0
  have HZ0 := Lib.hid hz0
  have HZ1 := Lib.hid hz1
  have HZ2 := Lib.hid hz2
  clear hi0 hz0 hz1 hz2
  go_enter Tryz.func90, Tryz.ntmps90
  go_wp2
  obtain ⟨W1, hNW1, BX, hW1, hzW1⟩ := Box.named w (LoftV.cs ⟨vl, ⟨aa, an, ac⟩, ⟨ba, bn, bc⟩, ⟨ca, cn, cc⟩, ⟨pa, pn, pc⟩, ⟨wa, wn, wc⟩⟩) 28
  rw [hNW1]
  clear hNW1
  rw [show w.heap.size + 1 = W1.heap.size from hzW1.out.symm]
  obtain ⟨W0, hNW0, BX2, hW2, hzW0⟩ := Box.named W1 #[.slice none 0 0, .slice none 0 0] 156
  rw [hNW0]
  clear hNW0
  rw [show W1.heap.size + 1 = W0.heap.size from hzW0.out.symm]
  obtain ⟨W3, hNW3, BX3, hW3, hzW3⟩ := Box.named W0 #[.slice none 0 0, .slice none 0 0] 156
  rw [hNW3]
  clear hNW3
  have hW0 : Below w.heap.size w W0 := hW1.trans (hW2.mono hW1.size)
  go_loopw [1, 6] (fun q i wr => ∃ k m : Nat, ∃ vv : Value, ∃ xs : List Int, k ≤ an ∧ i = .int .i64 k ∧ q = .int .i64 m ∧ m ≤ 3000 ∧ Hid ((xs, m) = nthF (l.air.take k) n) ∧ Box wr W0.heap.size #[vv, .slice none 0 0] 156 ∧ xs.length = k ∧ wr.ownsRow (W0.heap.size + 1) 3 1 vv k (xs.map (Value.int .i64)) ∧ Below W0.heap.size W0 wr) (fun _ i _ => an - (intOf i).toNat)
  case atStart => exact ⟨0, n, _, [], Nat.zero_le _, rfl, rfl, hn, rfl, BX3, rfl, World.ownsRow_nil _ _ _ _, hW3⟩
  case round =>
    obtain ⟨k, m, vv, xs, hk, rfl, rfl, hm, hq, BT, hxl, hown, hb⟩ := hrel
    have HXL := Lib.hid hxl
    have HOWN := Lib.hid hown
    clear hxl hown
    have hw := below_on hW0 hb
    have c1 := ((BX.lift hW2).lift hb).cell 1 (.slice aa an ac) rfl
    by_cases hlt : k < an
    · obtain ⟨x, hx⟩ := at_of_lt HLa.out hlt
      have HX := Lib.hid hx
      obtain ⟨b, o, ha, hbl, hc1, hc2⟩ := h.air.rg_at hx
      have hrg := hl.airs x (List.mem_of_getElem? hx)
      clear hx
      have hc1 := lift hw hc1
      have hc2 := lift hw hc2
      simp only at ha
      subst ha
      have hbt := BT.lt
      go_wp2
      obtain ⟨W7, hNW7, BX7, hW7, hzW7⟩ := Box.named wr #[.int .i64 x.lo, .int .i64 x.hi] 65
      rw [hNW7]
      clear hNW7
      have t0 := (BT.lift hW7).cell 0 vv rfl
      have e0 := BX7.cell 0 (.int .i64 x.lo) rfl
      have e1 := BX7.cell 1 (.int .i64 x.hi) rfl
      have hown7 := own_below HOWN.out hW7
      have HOWN7 := Lib.hid hown7
      clear hown7
      have av : vv.ownBlock ≠ some W0.heap.size := own_ne HOWN.out (Or.inl (by omega))
      have a7 : vv.ownBlock ≠ some wr.heap.size := own_ne HOWN.out (Or.inr (Nat.le_refl _))
      have hm0 : (0 : Int) ≤ m := by omega
      obtain ⟨sz, hsz⟩ : ∃ sz : Nat, x.hi - x.lo + 1 = (sz : Int) := ⟨(x.hi - x.lo + 1).toNat, by omega⟩
      have HSZ := Lib.hid hsz
      have hsz1 : (1 : Int) ≤ sz := by omega
      have hsz2 : (sz : Int) ≤ 10 := by omega
      have hszb : ((sz : Int) == 0) = false := by simp; omega
      have hszn : ¬ sz = 0 := by omega
      have hml : k + 1 ≤ maxLen := by unfold maxLen; omega
      obtain ⟨mr, hmr⟩ : ∃ mr : Nat, m % sz = mr := ⟨_, rfl⟩
      obtain ⟨mq, hmq⟩ : ∃ mq : Nat, m / sz = mq := ⟨_, rfl⟩
      have hmm : mr < 10 := by have := Nat.mod_lt m (show 0 < sz by omega); omega
      have hmd : mq ≤ 3000 := by have := Nat.div_le_self m sz; omega
      have HMR := Lib.hid hmr
      have HMQ := Lib.hid hmq
      have hq1 : (m : Int).tmod sz = (mr : Int) := by rw [Int.tmod_eq_emod_of_nonneg hm0, ← hmr]; simp
      have hq2 : (m : Int).tdiv sz = (mq : Int) := by rw [Int.tdiv_eq_ediv_of_nonneg hm0, ← hmq]; simp
      clear hmr hmq
      have hw1 : IntKind.i64.wrap (mr : Int) = (mr : Int) := IntWalk.i64_in _ (by omega)
      have hw2 : IntKind.i64.wrap (mq : Int) = (mq : Int) := IntWalk.i64_in _ (by omega)
      have hw3 : IntKind.i64.wrap (x.lo + (mr : Int)) = x.lo + (mr : Int) := IntWalk.i64_in _ (by omega)
      clear hsz
      have hlt7 := hW7.size
      have hlt8 := BX7.lt
      refine start_ (n := 18) (S := fun w' => w'.cell? ⟨W0.heap.size, 0, none⟩ = some (vv) ∧ w'.cell? ⟨wr.heap.size, 0, none⟩ = some (.int .i64 x.lo) ∧ w'.cell? ⟨wr.heap.size, 1, none⟩ = some (.int .i64 x.hi)) (ds := [16]) #[false, false, false, false, false, false, false, false, false, false, false, false, false, false, false, false, false, false] (by kernel_rfl) rfl rfl ⟨t0, e0, e1⟩ (fun hHeld => ?_)
      obtain ⟨s0, s1, s2⟩ := hHeld
      refine pure_ (i := 0) (N := some 22) (v := ?_) (a' := ?_) #[true, false, false, false, false, false, false, false, false, false, false, false, false, false, false, false, false, false] rfl rfl (by kernel_rfl) (fun _ _ _ h => h) (Or.inl ⟨by rfl, ?_⟩) ?_ ?_
      rotate_left
      · intro w'
        go_simp
        with_reducible rfl
      rotate_left
      · simp only [Act.put, List.setIfInBounds_toArray, List.set_cons_zero, List.set_cons_succ, i64_w, i32_w]
        rfl
      refine pure_ (i := 2) (N := some 24) (v := ?_) (a' := ?_) #[true, false, true, false, false, false, false, false, false, false, false, false, false, false, false, false, false, false] rfl rfl (by kernel_rfl) (fun _ _ _ h => h) (Or.inl ⟨by rfl, ?_⟩) ?_ ?_
      rotate_left
      · intro w'
        go_simp
        with_reducible rfl
      rotate_left
      · simp only [Act.put, List.setIfInBounds_toArray, List.set_cons_zero, List.set_cons_succ, i64_w, i32_w]
        rfl
      refine pure_ (i := 4) (N := some 26) (v := ?_) (a' := ?_) #[true, false, true, false, true, false, false, false, false, false, false, false, false, false, false, false, false, false] rfl rfl (by kernel_rfl) (fun _ _ _ h => h) (Or.inl ⟨by rfl, ?_⟩) ?_ ?_
      rotate_left
      · intro w'
        go_simp
        with_reducible rfl
      rotate_left
      · simp only [Act.put, List.setIfInBounds_toArray, List.set_cons_zero, List.set_cons_succ, i64_w, i32_w]
        rfl
      refine pure_ (i := 11) (N := some 33) (v := ?_) (a' := ?_) #[true, false, true, false, true, false, false, false, false, false, false, true, false, false, false, false, false, false] rfl rfl (by kernel_rfl) (fun _ _ _ h => h) (Or.inl ⟨by rfl, ?_⟩) ?_ ?_
      rotate_left
      · intro w'
        go_simp
        with_reducible rfl
      rotate_left
      · simp only [Act.put, List.setIfInBounds_toArray, List.set_cons_zero, List.set_cons_succ, i64_w, i32_w]
        rfl
      refine take_ (i := 1) (N := some 23) (v := ?_) (a' := ?_) #[true, true, true, false, true, false, false, false, false, false, false, true, false, false, false, false, false, false] rfl rfl (by kernel_rfl) (fun _ _ _ h => h) (Or.inl ⟨by rfl, ?_⟩) ⟨s0, s1, s2⟩ ?_ ?_
      rotate_left
      · rintro w' ⟨zs0, zs1, zs2⟩
        go_simp
        with_reducible rfl
      rotate_left
      · simp only [Act.put, List.setIfInBounds_toArray, List.set_cons_zero, List.set_cons_succ, i64_w, i32_w]
        rfl
      refine take_ (i := 3) (N := some 25) (v := ?_) (a' := ?_) #[true, true, true, true, true, false, false, false, false, false, false, true, false, false, false, false, false, false] rfl rfl (by kernel_rfl) (fun _ _ _ h => h) (Or.inl ⟨by rfl, ?_⟩) ⟨s0, s1, s2⟩ ?_ ?_
      rotate_left
      · rintro w' ⟨zs0, zs1, zs2⟩
        go_simp
        with_reducible rfl
      rotate_left
      · simp only [Act.put, List.setIfInBounds_toArray, List.set_cons_zero, List.set_cons_succ, i64_w, i32_w]
        rfl
      refine take_ (i := 5) (N := some 27) (v := ?_) (a' := ?_) #[true, true, true, true, true, true, false, false, false, false, false, true, false, false, false, false, false, false] rfl rfl (by kernel_rfl) (fun _ _ _ h => h) (Or.inl ⟨by rfl, ?_⟩) ⟨s0, s1, s2⟩ ?_ ?_
      rotate_left
      · rintro w' ⟨zs0, zs1, zs2⟩
        go_simp
        with_reducible rfl
      rotate_left
      · simp only [Act.put, List.setIfInBounds_toArray, List.set_cons_zero, List.set_cons_succ, i64_w, i32_w]
        rfl
      refine take_ (i := 12) (N := some 34) (v := ?_) (a' := ?_) #[true, true, true, true, true, true, false, false, false, false, false, true, true, false, false, false, false, false] rfl rfl (by kernel_rfl) (fun _ _ _ h => h) (Or.inl ⟨by rfl, ?_⟩) ⟨s0, s1, s2⟩ ?_ ?_
      rotate_left
      · rintro w' ⟨zs0, zs1, zs2⟩
        go_simp
        with_reducible rfl
      rotate_left
      · simp only [Act.put, List.setIfInBounds_toArray, List.set_cons_zero, List.set_cons_succ, i64_w, i32_w]
        rfl
      refine one_ (i := 6) (N := some 28) #[true, true, true, true, true, true, true, false, false, false, false, true, true, false, false, false, false, false] rfl rfl (by kernel_rfl) (by decide) (fun K hK => ?_)
      refine goes_ Tryz.func136 (by kernel_rfl) rfl #[.agg #[.int .i64 x.lo, .int .i64 x.hi]] (by rfl) rfl rfl (by (try simp only [List.map_toArray, List.map_cons, List.map_nil]); first | done | rfl) ?_
      refine (call_val (Size06_any _ _ _ (by omega) (by omega) (by omega)) (u := .int .i64 sz) (by rw [HSZ.out])).mono ?_
      rintro e w1 ⟨rfl, hb1⟩
      refine ⟨_, rfl, ?_⟩
      have hown1 := own_below (own_below HOWN7.out (below_drew _)) hb1
      have BT1 := ((BT.lift hW7).lift (below_drew _)).lift hb1
      have hs1 := hb1.size
      simp only [World.size_drew] at hs1
      refine hK.out _ _ ⟨lift hb1 s0, lift hb1 s1, lift hb1 s2⟩ (fun hHeld => ?_)
      clear hK K s0 s1 s2
      obtain ⟨s0, s1, s2⟩ := hHeld
      refine norm_ (a' := ?_) ?_ ?_
      rotate_left
      · show Act.put _ (some 28) _ = _
        simp only [Act.put, List.setIfInBounds_toArray, List.set_cons_zero, List.set_cons_succ, i64_w, i32_w]
        rfl
      refine pure_ (i := 7) (N := some 29) (v := ?_) (a' := ?_) #[true, true, true, true, true, true, true, true, false, false, false, true, true, false, false, false, false, false] rfl rfl (by kernel_rfl) (fun _ _ _ h => h) (Or.inl ⟨by rfl, ?_⟩) ?_ ?_
      rotate_left
      · intro w'
        go_simp
        with_reducible rfl
      rotate_left
      · simp only [Act.put, List.setIfInBounds_toArray, List.set_cons_zero, List.set_cons_succ, i64_w, i32_w]
        rfl
      refine pure_ (i := 8) (N := some 30) (v := ?_) (a' := ?_) #[true, true, true, true, true, true, true, true, true, false, false, true, true, false, false, false, false, false] rfl rfl (by kernel_rfl) (fun _ _ _ h => h) (Or.inl ⟨by rfl, ?_⟩) ?_ ?_
      rotate_left
      · intro w'
        go_simp
        with_reducible rfl
      rotate_left
      · simp only [Act.put, List.setIfInBounds_toArray, List.set_cons_zero, List.set_cons_succ, i64_w, i32_w]
        rfl
      refine one_ (i := 9) (N := some 31) #[true, true, true, true, true, true, true, true, true, true, false, true, true, false, false, false, false, false] rfl rfl (by kernel_rfl) (by decide) (fun K hK => ?_)
      refine value_ (w1 := ?_) (v := ?_) (by rfl) rfl ?_ ?_
      rotate_left 2
      · go_simp
        constructor
        · rfl
        · rfl
      refine hK.out _ _ ⟨lift (below_box _ _) s0, lift (below_box _ _) s1, lift (below_box _ _) s2⟩ (fun hHeld => ?_)
      clear hK K s0 s1 s2
      obtain ⟨s0, s1, s2⟩ := hHeld
      refine norm_ (a' := ?_) ?_ ?_
      rotate_left
      · show Act.put _ (some 31) _ = _
        simp only [Act.put, List.setIfInBounds_toArray, List.set_cons_zero, List.set_cons_succ, i64_w, i32_w]
        rfl
      refine one_ (i := 10) (N := some 32) #[true, true, true, true, true, true, true, true, true, true, true, true, true, false, false, false, false, false] rfl rfl (by kernel_rfl) (by decide) (fun K hK => ?_)
      refine step_append_lies _ (by rfl) _ _ _ (by rfl) (W0.heap.size + 1) 3 i0 _ 1 8 Tryz.underlying25 HI.out HZ0.out HZ1.out HZ2.out rfl (by omega) vv k (xs.map (Value.int .i64)) (by rfl) (hown1.alloc _) ⟨w1.heap.size, 0, none⟩ 1 1 [.int .i64 (x.lo + (mr : Int))] (by rfl) (by rfl) (World.news_of_block (cs := #[.int .i64 (x.lo + (mr : Int))]) (t := 3) (fr := (0, 0)) (heap_alloc_new w1 _)) (by simp [Value.oneCell']) (by omega) hml (by omega) (by simp; omega) (w1.heap.size + 1) (by simp) ?_
      intro gg cap w2 hown2 hgrow hat hlt
      have BT2 := (BT1.lift (below_box _ _)).grown hgrow av
      refine hK.out _ _ ⟨lift_grown hgrow s0 av, lift_grown hgrow s1 a7, lift_grown hgrow s2 a7⟩ (fun hHeld => ?_)
      clear hK K s0 s1 s2
      obtain ⟨s0, s1, s2⟩ := hHeld
      refine norm_ (a' := ?_) ?_ ?_
      rotate_left
      · show Act.put _ (some 32) _ = _
        simp only [Act.put, List.setIfInBounds_toArray, List.set_cons_zero, List.set_cons_succ, i64_w, i32_w]
        rfl
      refine pure_ (i := 15) (N := some 37) (v := ?_) (a' := ?_) #[true, true, true, true, true, true, true, true, true, true, true, true, true, false, false, true, false, false] rfl rfl (by kernel_rfl) (fun _ _ _ h => h) (Or.inl ⟨by rfl, ?_⟩) ?_ ?_
      rotate_left
      · intro w'
        go_simp
        with_reducible rfl
      rotate_left
      · simp only [Act.put, List.setIfInBounds_toArray, List.set_cons_zero, List.set_cons_succ, i64_w, i32_w]
        rfl
      refine one_ (i := 13) (N := some 35) #[true, true, true, true, true, true, true, true, true, true, true, true, true, true, false, true, false, false] rfl rfl (by kernel_rfl) (by decide) (fun K hK => ?_)
      refine goes_ Tryz.func136 (by kernel_rfl) rfl #[.agg #[.int .i64 x.lo, .int .i64 x.hi]] (by rfl) rfl rfl (by (try simp only [List.map_toArray, List.map_cons, List.map_nil]); first | done | rfl) ?_
      refine (call_val (Size06_any _ _ _ (by omega) (by omega) (by omega)) (u := .int .i64 sz) (by rw [HSZ.out])).mono ?_
      rintro e w3 ⟨rfl, hb3⟩
      refine ⟨_, rfl, ?_⟩
      have hown3 := own_below hown2 hb3
      have BT3 := BT2.lift hb3
      refine hK.out _ _ ⟨lift hb3 s0, lift hb3 s1, lift hb3 s2⟩ (fun hHeld => ?_)
      clear hK K s0 s1 s2
      obtain ⟨s0, s1, s2⟩ := hHeld
      refine norm_ (a' := ?_) ?_ ?_
      rotate_left
      · show Act.put _ (some 35) _ = _
        simp only [Act.put, List.setIfInBounds_toArray, List.set_cons_zero, List.set_cons_succ, i64_w, i32_w]
        rfl
      refine pure_ (i := 14) (N := some 36) (v := ?_) (a' := ?_) #[true, true, true, true, true, true, true, true, true, true, true, true, true, true, true, true, false, false] rfl rfl (by kernel_rfl) (fun _ _ _ h => h) (Or.inl ⟨by rfl, ?_⟩) ?_ ?_
      rotate_left
      · intro w'
        go_simp
        with_reducible rfl
      rotate_left
      · simp only [Act.put, List.setIfInBounds_toArray, List.set_cons_zero, List.set_cons_succ, i64_w, i32_w]
        rfl
      refine last_ (i := 16) (N := none) #[true, true, true, true, true, true, true, true, true, true, true, true, true, true, true, true, true, false] rfl rfl (by kernel_rfl) (by decide) (fun K hK => ?_)
      have hst := BT3.cell 0 vv rfl
      have hsf := BT3.free 0
      refine skip_ (w1 := ?_) (by rfl) rfl ?_ ?_
      rotate_left
      · go_simp
        rfl
      refine hK.out _ _ ?_
      clear hK K
      clear s0 s1 s2
      refine pure_ (i := 17) (N := some 1) (v := ?_) (a' := ?_) #[true, true, true, true, true, true, true, true, true, true, true, true, true, true, true, true, true, true] rfl rfl (by kernel_rfl) (fun _ _ _ h => h) (Or.inl ⟨by rfl, ?_⟩) ?_ ?_
      rotate_left
      · intro w'
        go_simp
        with_reducible rfl
      rotate_left
      · simp only [Act.put, List.setIfInBounds_toArray, List.set_cons_zero, List.set_cons_succ, i64_w, i32_w]
        rfl
      refine done_ (by kernel_rfl) ?_
      go_wp2
      go_roundw
      case measure => simp [intOf]; omega
      case rel =>
        have hgg : gg ≠ W0.heap.size := by
          have := (hown3.lt gg rfl).1
          omega
        refine ⟨k + 1, mq, _, xs ++ [x.lo + (mr : Int)], by omega, by go_num, rfl, hmd, ?_, BT3.set 0 _, by simp [HXL.out], ?_, ?_⟩
        · have hq' : (xs, m) = nthF (l.air.take k) n := hq
          show (_, mq) = nthF (l.air.take (k + 1)) n
          have e : x.size.toNat = sz := by have := HSZ.out; unfold Rg.size; omega
          unfold nthF at hq' ⊢
          rw [take_foldl _ _ HX.out, ← hq', nthStep, e, HMR.out, HMQ.out]
        · have := own_far (b := W0.heap.size) (k := 0) hown3 (by simp [Value.ownBlock]; exact hgg) (.slice (some ⟨gg, 0, none⟩) (k + 1) cap)
          simpa using this
        · exact below_set (below_on ((below_on (below_on (below_on (below_on hb hW7) (below_drew _)) hb1) (below_box _ _)).grown hgrow (below_on (below_on (below_on (below_on hb hW7) (below_drew _)) hb1) (below_box _ _)).size (fun b hbb => by have := (HOWN.out.lt b hbb).1; omega)) hb3) (Nat.le_refl _) _
    · obtain rfl : an = k := by omega
      have HQA : Hid ((xs, m) = nthF l.air n) := by
        have h1 : (xs, m) = nthF (l.air.take an) n := hq
        rwa [take_len HLa.out] at h1
      clear hq
      obtain ⟨m0, rfl⟩ : ∃ m0 : Nat, m0 = m := ⟨_, rfl⟩
      obtain ⟨xa, rfl⟩ : ∃ xa : List Int, xa = xs := ⟨_, rfl⟩
      obtain ⟨va, rfl⟩ : ∃ va : Value, va = vv := ⟨_, rfl⟩
      have hsm : an ≤ 281474976710656 := by omega
      obtain ⟨⟨sa, sn, sc⟩, hva, hsn, hrab, hra⟩ := own_ints HXL.out hsm HOWN.out
      simp only at hva hsn hrab
      subst hva hsn
      clear HXL HOWN
      obtain ⟨Wa, rfl⟩ : ∃ Wa : World, Wa = wr := ⟨_, rfl⟩
      have hWa := BT.lt
      have hbWa := hb
      go_wp2
      go_loopw [1, 8] (fun q i wr => ∃ j m : Nat, ∃ vv : Value, ∃ xs : List Int, j ≤ cn ∧ i = .int .i64 j ∧ q = .int .i64 m ∧ m ≤ 3000 ∧ Hid ((xs, m) = nthF ((l.cakes.take j).map (·.water)) m0) ∧ Box wr W0.heap.size #[.slice sa sn sc, vv] 156 ∧ xs.length = j ∧ wr.ownsRow Wa.heap.size 3 1 vv j (xs.map (Value.int .i64)) ∧ Below W0.heap.size W0 wr ∧ Wa.grownBy wr (some W0.heap.size)) (fun _ i _ => cn - (intOf i).toNat)
      case atStart => exact ⟨0, m0, _, [], Nat.zero_le _, rfl, rfl, hm, rfl, BT, rfl, World.ownsRow_nil _ _ _ _, hb, grown_rfl _ _⟩
      case round =>
        clear hb BT hm c1 hw
        obtain ⟨j, m, vv, xs, hk, rfl, rfl, hm, hq, BT, hxl, hown, hb, hg⟩ := hrel
        have HXL := Lib.hid hxl
        have HOWN := Lib.hid hown
        clear hxl hown
        have hgs := hg.size
        have hw := below_on hW0 hb
        have c1 := ((BX.lift hW2).lift hb).cell 3 (.slice ca cn cc) rfl
        by_cases hlt : j < cn
        · obtain ⟨x, hx⟩ := at_of_lt HLc.out hlt
          have HX := Lib.hid hx
          obtain ⟨b, o, ha, hbl, _, hc1, hc2, _⟩ := h.cakes.cake_at hx
          have hrg := (hl.cakes x (List.mem_of_getElem? hx)).2.2
          clear hx
          have hc1 := lift hw hc1
          have hc2 := lift hw hc2
          simp only at ha
          subst ha
          have hbt := BT.lt
          go_wp2
          obtain ⟨W7, hNW7, BX7, hW7, hzW7⟩ := Box.named wr #[.int .i64 x.water.lo, .int .i64 x.water.hi] 65
          rw [hNW7]
          clear hNW7
          have t0 := (BT.lift hW7).cell 1 vv rfl
          have e0 := BX7.cell 0 (.int .i64 x.water.lo) rfl
          have e1 := BX7.cell 1 (.int .i64 x.water.hi) rfl
          have hown7 := own_below HOWN.out hW7
          have HOWN7 := Lib.hid hown7
          clear hown7
          have av : vv.ownBlock ≠ some W0.heap.size := own_ne HOWN.out (Or.inl hWa)
          have a7 : vv.ownBlock ≠ some wr.heap.size := own_ne HOWN.out (Or.inr (Nat.le_refl _))
          have hm0 : (0 : Int) ≤ m := by omega
          obtain ⟨sz, hsz⟩ : ∃ sz : Nat, x.water.hi - x.water.lo + 1 = (sz : Int) := ⟨(x.water.hi - x.water.lo + 1).toNat, by omega⟩
          have HSZ := Lib.hid hsz
          have hsz1 : (1 : Int) ≤ sz := by omega
          have hsz2 : (sz : Int) ≤ 41 := by omega
          have hszb : ((sz : Int) == 0) = false := by simp; omega
          have hszn : ¬ sz = 0 := by omega
          have hml : j + 1 ≤ maxLen := by unfold maxLen; omega
          obtain ⟨mr, hmr⟩ : ∃ mr : Nat, m % sz = mr := ⟨_, rfl⟩
          obtain ⟨mq, hmq⟩ : ∃ mq : Nat, m / sz = mq := ⟨_, rfl⟩
          have hmm : mr < 41 := by have := Nat.mod_lt m (show 0 < sz by omega); omega
          have hmd : mq ≤ 3000 := by have := Nat.div_le_self m sz; omega
          have HMR := Lib.hid hmr
          have HMQ := Lib.hid hmq
          have hq1 : (m : Int).tmod sz = (mr : Int) := by rw [Int.tmod_eq_emod_of_nonneg hm0, ← hmr]; simp
          have hq2 : (m : Int).tdiv sz = (mq : Int) := by rw [Int.tdiv_eq_ediv_of_nonneg hm0, ← hmq]; simp
          clear hmr hmq
          have hw1 : IntKind.i64.wrap (mr : Int) = (mr : Int) := IntWalk.i64_in _ (by omega)
          have hw2 : IntKind.i64.wrap (mq : Int) = (mq : Int) := IntWalk.i64_in _ (by omega)
          have hw3 : IntKind.i64.wrap (x.water.lo + (mr : Int)) = x.water.lo + (mr : Int) := IntWalk.i64_in _ (by omega)
          clear hsz
          have hlt7 := hW7.size
          have hlt8 := BX7.lt
          refine start_ (n := 18) (S := fun w' => w'.cell? ⟨W0.heap.size, 1, none⟩ = some (vv) ∧ w'.cell? ⟨wr.heap.size, 0, none⟩ = some (.int .i64 x.water.lo) ∧ w'.cell? ⟨wr.heap.size, 1, none⟩ = some (.int .i64 x.water.hi)) (ds := [16]) #[false, false, false, false, false, false, false, false, false, false, false, false, false, false, false, false, false, false] (by kernel_rfl) rfl rfl ⟨t0, e0, e1⟩ (fun hHeld => ?_)
          obtain ⟨s0, s1, s2⟩ := hHeld
          refine pure_ (i := 0) (N := some 51) (v := ?_) (a' := ?_) #[true, false, false, false, false, false, false, false, false, false, false, false, false, false, false, false, false, false] rfl rfl (by kernel_rfl) (fun _ _ _ h => h) (Or.inl ⟨by rfl, ?_⟩) ?_ ?_
          rotate_left
          · intro w'
            go_simp
            with_reducible rfl
          rotate_left
          · simp only [Act.put, List.setIfInBounds_toArray, List.set_cons_zero, List.set_cons_succ, i64_w, i32_w]
            rfl
          refine pure_ (i := 2) (N := some 53) (v := ?_) (a' := ?_) #[true, false, true, false, false, false, false, false, false, false, false, false, false, false, false, false, false, false] rfl rfl (by kernel_rfl) (fun _ _ _ h => h) (Or.inl ⟨by rfl, ?_⟩) ?_ ?_
          rotate_left
          · intro w'
            go_simp
            with_reducible rfl
          rotate_left
          · simp only [Act.put, List.setIfInBounds_toArray, List.set_cons_zero, List.set_cons_succ, i64_w, i32_w]
            rfl
          refine pure_ (i := 4) (N := some 55) (v := ?_) (a' := ?_) #[true, false, true, false, true, false, false, false, false, false, false, false, false, false, false, false, false, false] rfl rfl (by kernel_rfl) (fun _ _ _ h => h) (Or.inl ⟨by rfl, ?_⟩) ?_ ?_
          rotate_left
          · intro w'
            go_simp
            with_reducible rfl
          rotate_left
          · simp only [Act.put, List.setIfInBounds_toArray, List.set_cons_zero, List.set_cons_succ, i64_w, i32_w]
            rfl
          refine pure_ (i := 11) (N := some 62) (v := ?_) (a' := ?_) #[true, false, true, false, true, false, false, false, false, false, false, true, false, false, false, false, false, false] rfl rfl (by kernel_rfl) (fun _ _ _ h => h) (Or.inl ⟨by rfl, ?_⟩) ?_ ?_
          rotate_left
          · intro w'
            go_simp
            with_reducible rfl
          rotate_left
          · simp only [Act.put, List.setIfInBounds_toArray, List.set_cons_zero, List.set_cons_succ, i64_w, i32_w]
            rfl
          refine take_ (i := 1) (N := some 52) (v := ?_) (a' := ?_) #[true, true, true, false, true, false, false, false, false, false, false, true, false, false, false, false, false, false] rfl rfl (by kernel_rfl) (fun _ _ _ h => h) (Or.inl ⟨by rfl, ?_⟩) ⟨s0, s1, s2⟩ ?_ ?_
          rotate_left
          · rintro w' ⟨zs0, zs1, zs2⟩
            go_simp
            with_reducible rfl
          rotate_left
          · simp only [Act.put, List.setIfInBounds_toArray, List.set_cons_zero, List.set_cons_succ, i64_w, i32_w]
            rfl
          refine take_ (i := 3) (N := some 54) (v := ?_) (a' := ?_) #[true, true, true, true, true, false, false, false, false, false, false, true, false, false, false, false, false, false] rfl rfl (by kernel_rfl) (fun _ _ _ h => h) (Or.inl ⟨by rfl, ?_⟩) ⟨s0, s1, s2⟩ ?_ ?_
          rotate_left
          · rintro w' ⟨zs0, zs1, zs2⟩
            go_simp
            with_reducible rfl
          rotate_left
          · simp only [Act.put, List.setIfInBounds_toArray, List.set_cons_zero, List.set_cons_succ, i64_w, i32_w]
            rfl
          refine take_ (i := 5) (N := some 56) (v := ?_) (a' := ?_) #[true, true, true, true, true, true, false, false, false, false, false, true, false, false, false, false, false, false] rfl rfl (by kernel_rfl) (fun _ _ _ h => h) (Or.inl ⟨by rfl, ?_⟩) ⟨s0, s1, s2⟩ ?_ ?_
          rotate_left
          · rintro w' ⟨zs0, zs1, zs2⟩
            go_simp
            with_reducible rfl
          rotate_left
          · simp only [Act.put, List.setIfInBounds_toArray, List.set_cons_zero, List.set_cons_succ, i64_w, i32_w]
            rfl
          refine take_ (i := 12) (N := some 63) (v := ?_) (a' := ?_) #[true, true, true, true, true, true, false, false, false, false, false, true, true, false, false, false, false, false] rfl rfl (by kernel_rfl) (fun _ _ _ h => h) (Or.inl ⟨by rfl, ?_⟩) ⟨s0, s1, s2⟩ ?_ ?_
          rotate_left
          · rintro w' ⟨zs0, zs1, zs2⟩
            go_simp
            with_reducible rfl
          rotate_left
          · simp only [Act.put, List.setIfInBounds_toArray, List.set_cons_zero, List.set_cons_succ, i64_w, i32_w]
            rfl
          refine one_ (i := 6) (N := some 57) #[true, true, true, true, true, true, true, false, false, false, false, true, true, false, false, false, false, false] rfl rfl (by kernel_rfl) (by decide) (fun K hK => ?_)
          refine goes_ Tryz.func136 (by kernel_rfl) rfl #[.agg #[.int .i64 x.water.lo, .int .i64 x.water.hi]] (by rfl) rfl rfl (by (try simp only [List.map_toArray, List.map_cons, List.map_nil]); first | done | rfl) ?_
          refine (call_val (Size06_any _ _ _ (by omega) (by omega) (by omega)) (u := .int .i64 sz) (by rw [HSZ.out])).mono ?_
          rintro e w1 ⟨rfl, hb1⟩
          refine ⟨_, rfl, ?_⟩
          have hown1 := own_below (own_below HOWN7.out (below_drew _)) hb1
          have BT1 := ((BT.lift hW7).lift (below_drew _)).lift hb1
          have hs1 := hb1.size
          simp only [World.size_drew] at hs1
          refine hK.out _ _ ⟨lift hb1 s0, lift hb1 s1, lift hb1 s2⟩ (fun hHeld => ?_)
          clear hK K s0 s1 s2
          obtain ⟨s0, s1, s2⟩ := hHeld
          refine norm_ (a' := ?_) ?_ ?_
          rotate_left
          · show Act.put _ (some 57) _ = _
            simp only [Act.put, List.setIfInBounds_toArray, List.set_cons_zero, List.set_cons_succ, i64_w, i32_w]
            rfl
          refine pure_ (i := 7) (N := some 58) (v := ?_) (a' := ?_) #[true, true, true, true, true, true, true, true, false, false, false, true, true, false, false, false, false, false] rfl rfl (by kernel_rfl) (fun _ _ _ h => h) (Or.inl ⟨by rfl, ?_⟩) ?_ ?_
          rotate_left
          · intro w'
            go_simp
            with_reducible rfl
          rotate_left
          · simp only [Act.put, List.setIfInBounds_toArray, List.set_cons_zero, List.set_cons_succ, i64_w, i32_w]
            rfl
          refine pure_ (i := 8) (N := some 59) (v := ?_) (a' := ?_) #[true, true, true, true, true, true, true, true, true, false, false, true, true, false, false, false, false, false] rfl rfl (by kernel_rfl) (fun _ _ _ h => h) (Or.inl ⟨by rfl, ?_⟩) ?_ ?_
          rotate_left
          · intro w'
            go_simp
            with_reducible rfl
          rotate_left
          · simp only [Act.put, List.setIfInBounds_toArray, List.set_cons_zero, List.set_cons_succ, i64_w, i32_w]
            rfl
          refine one_ (i := 9) (N := some 60) #[true, true, true, true, true, true, true, true, true, true, false, true, true, false, false, false, false, false] rfl rfl (by kernel_rfl) (by decide) (fun K hK => ?_)
          refine value_ (w1 := ?_) (v := ?_) (by rfl) rfl ?_ ?_
          rotate_left 2
          · go_simp
            constructor
            · rfl
            · rfl
          refine hK.out _ _ ⟨lift (below_box _ _) s0, lift (below_box _ _) s1, lift (below_box _ _) s2⟩ (fun hHeld => ?_)
          clear hK K s0 s1 s2
          obtain ⟨s0, s1, s2⟩ := hHeld
          refine norm_ (a' := ?_) ?_ ?_
          rotate_left
          · show Act.put _ (some 60) _ = _
            simp only [Act.put, List.setIfInBounds_toArray, List.set_cons_zero, List.set_cons_succ, i64_w, i32_w]
            rfl
          refine one_ (i := 10) (N := some 61) #[true, true, true, true, true, true, true, true, true, true, true, true, true, false, false, false, false, false] rfl rfl (by kernel_rfl) (by decide) (fun K hK => ?_)
          refine step_append_lies _ (by rfl) _ _ _ (by rfl) Wa.heap.size 3 i0 _ 1 8 Tryz.underlying25 HI.out HZ0.out HZ1.out HZ2.out rfl (by omega) vv j (xs.map (Value.int .i64)) (by rfl) (hown1.alloc _) ⟨w1.heap.size, 0, none⟩ 1 1 [.int .i64 (x.water.lo + (mr : Int))] (by rfl) (by rfl) (World.news_of_block (cs := #[.int .i64 (x.water.lo + (mr : Int))]) (t := 3) (fr := (0, 0)) (heap_alloc_new w1 _)) (by simp [Value.oneCell']) (by omega) hml (by omega) (by simp; omega) (w1.heap.size + 1) (by simp) ?_
          intro gg cap w2 hown2 hgrow hat hlt
          have BT2 := (BT1.lift (below_box _ _)).grown hgrow av
          refine hK.out _ _ ⟨lift_grown hgrow s0 av, lift_grown hgrow s1 a7, lift_grown hgrow s2 a7⟩ (fun hHeld => ?_)
          clear hK K s0 s1 s2
          obtain ⟨s0, s1, s2⟩ := hHeld
          refine norm_ (a' := ?_) ?_ ?_
          rotate_left
          · show Act.put _ (some 61) _ = _
            simp only [Act.put, List.setIfInBounds_toArray, List.set_cons_zero, List.set_cons_succ, i64_w, i32_w]
            rfl
          refine pure_ (i := 15) (N := some 66) (v := ?_) (a' := ?_) #[true, true, true, true, true, true, true, true, true, true, true, true, true, false, false, true, false, false] rfl rfl (by kernel_rfl) (fun _ _ _ h => h) (Or.inl ⟨by rfl, ?_⟩) ?_ ?_
          rotate_left
          · intro w'
            go_simp
            with_reducible rfl
          rotate_left
          · simp only [Act.put, List.setIfInBounds_toArray, List.set_cons_zero, List.set_cons_succ, i64_w, i32_w]
            rfl
          refine one_ (i := 13) (N := some 64) #[true, true, true, true, true, true, true, true, true, true, true, true, true, true, false, true, false, false] rfl rfl (by kernel_rfl) (by decide) (fun K hK => ?_)
          refine goes_ Tryz.func136 (by kernel_rfl) rfl #[.agg #[.int .i64 x.water.lo, .int .i64 x.water.hi]] (by rfl) rfl rfl (by (try simp only [List.map_toArray, List.map_cons, List.map_nil]); first | done | rfl) ?_
          refine (call_val (Size06_any _ _ _ (by omega) (by omega) (by omega)) (u := .int .i64 sz) (by rw [HSZ.out])).mono ?_
          rintro e w3 ⟨rfl, hb3⟩
          refine ⟨_, rfl, ?_⟩
          have hown3 := own_below hown2 hb3
          have BT3 := BT2.lift hb3
          refine hK.out _ _ ⟨lift hb3 s0, lift hb3 s1, lift hb3 s2⟩ (fun hHeld => ?_)
          clear hK K s0 s1 s2
          obtain ⟨s0, s1, s2⟩ := hHeld
          refine norm_ (a' := ?_) ?_ ?_
          rotate_left
          · show Act.put _ (some 64) _ = _
            simp only [Act.put, List.setIfInBounds_toArray, List.set_cons_zero, List.set_cons_succ, i64_w, i32_w]
            rfl
          refine pure_ (i := 14) (N := some 65) (v := ?_) (a' := ?_) #[true, true, true, true, true, true, true, true, true, true, true, true, true, true, true, true, false, false] rfl rfl (by kernel_rfl) (fun _ _ _ h => h) (Or.inl ⟨by rfl, ?_⟩) ?_ ?_
          rotate_left
          · intro w'
            go_simp
            with_reducible rfl
          rotate_left
          · simp only [Act.put, List.setIfInBounds_toArray, List.set_cons_zero, List.set_cons_succ, i64_w, i32_w]
            rfl
          refine last_ (i := 16) (N := none) #[true, true, true, true, true, true, true, true, true, true, true, true, true, true, true, true, true, false] rfl rfl (by kernel_rfl) (by decide) (fun K hK => ?_)
          have hst := BT3.cell 1 vv rfl
          have hsf := BT3.free 1
          refine skip_ (w1 := ?_) (by rfl) rfl ?_ ?_
          rotate_left
          · go_simp
            rfl
          refine hK.out _ _ ?_
          clear hK K
          clear s0 s1 s2
          refine pure_ (i := 17) (N := some 1) (v := ?_) (a' := ?_) #[true, true, true, true, true, true, true, true, true, true, true, true, true, true, true, true, true, true] rfl rfl (by kernel_rfl) (fun _ _ _ h => h) (Or.inl ⟨by rfl, ?_⟩) ?_ ?_
          rotate_left
          · intro w'
            go_simp
            with_reducible rfl
          rotate_left
          · simp only [Act.put, List.setIfInBounds_toArray, List.set_cons_zero, List.set_cons_succ, i64_w, i32_w]
            rfl
          refine done_ (by kernel_rfl) ?_
          go_wp2
          go_roundw
          case measure => simp [intOf]; omega
          case rel =>
            have hgg : gg ≠ W0.heap.size := by
              have := (hown3.lt gg rfl).1
              omega
            refine ⟨j + 1, mq, _, xs ++ [x.water.lo + (mr : Int)], by omega, by go_num, rfl, hmd, ?_, BT3.set 1 _, by simp [HXL.out], ?_, ?_, ?_⟩
            · have hq' : (xs, m) = nthF ((l.cakes.take j).map (·.water)) m0 := hq
              show (_, mq) = nthF ((l.cakes.take (j + 1)).map (·.water)) m0
              have e : x.water.size.toNat = sz := by have := HSZ.out; unfold Rg.size; omega
              unfold nthF at hq' ⊢
              rw [List.map_take, take_foldl _ _ (x := x.water) (by simp [HX.out]), ← List.map_take, ← hq', nthStep, e, HMR.out, HMQ.out]
            · have := own_far (b := W0.heap.size) (k := 1) hown3 (by simp [Value.ownBlock]; exact hgg) (.slice (some ⟨gg, 0, none⟩) (j + 1) cap)
              simpa using this
            · exact below_set (below_on ((below_on (below_on (below_on (below_on hb hW7) (below_drew _)) hb1) (below_box _ _)).grown hgrow (below_on (below_on (below_on (below_on hb hW7) (below_drew _)) hb1) (below_box _ _)).size (fun b hbb => by have := (HOWN.out.lt b hbb).1; omega)) hb3) (Nat.le_refl _) _
            · exact grown_set (grown_on hg (below_then (Below.grown (below_then (below_then (below_then (below_then (Below.refl Wa.heap.size wr) hg.size hW7) (by have := hg.size; have := hW7.size; omega) (below_drew _)) (by have := hg.size; have := hW7.size; simp; omega) hb1) (by have := hg.size; have := hW7.size; simp; omega) (below_box w1 _)) hgrow (by have := hg.size; have := hW7.size; simp; omega) (fun b hbb => (HOWN.out.lt b hbb).1)) (by have := hg.size; have := hW7.size; have := hgrow.size; simp at this; omega) hb3)) _
        · obtain rfl : cn = j := by omega
          have HQC : Hid ((xs, m) = nthF (l.cakes.map (·.water)) m0) := by
            have h1 : (xs, m) = nthF ((l.cakes.take cn).map (·.water)) m0 := hq
            rwa [take_len HLc.out] at h1
          clear hq
          obtain ⟨⟨ua, un, uc⟩, hvu, hun, hrub, hru⟩ := own_ints HXL.out (by omega) HOWN.out
          simp only at hvu hun
          subst hvu hun
          have k0 := BT.cell 0 (.slice sa sn sc) rfl
          have k1 := BT.cell 1 (.slice ua un uc) rfl
          have B4 := (BX2.lift hb)
          have kf0 := B4.free 0
          have kf1 := B4.free 1
          have kc0 := B4.cell 0 (.slice none 0 0) rfl
          have kc1 := B4.cell 1 (.slice none 0 0) rfl
          have hra' := hra.grown hg (fun k e => by cases e; omega)
          have hTR : Hid (nthT l n = ⟨xa, xs⟩) := by
            have h1 := HQA.out
            have h2 := HQC.out
            show nthT l n = ⟨xa, xs⟩
            unfold nthT
            rw [← h1]
            simp only
            rw [← h2]
          go_wp2
          have z0 := (B4.set 0 (.slice sa sn sc)).cell 0 (.slice sa sn sc) rfl
          have z1 := ((B4.set 0 (.slice sa sn sc)).set 1 (.slice ua un uc)).cell 0 (.slice sa sn sc) rfl
          have z2 := ((B4.set 0 (.slice sa sn sc)).set 1 (.slice ua un uc)).cell 1 (.slice ua un uc) rfl
          refine bodyPost_ret (v := .agg #[.slice sa sn sc, .slice ua un uc]) (by simp [results, Tryz.results90, go_sem, z0, z1, z2]) rfl ?_
          have hlt2 := BX2.lt
          have hgr : wr.grownBy ((wr.setCell ⟨W1.heap.size, 0, none⟩ (.slice sa sn sc)).setCell ⟨W1.heap.size, 1, none⟩ (.slice ua un uc)) (some W1.heap.size) := grown_set (grown_set (grown_rfl _ _) _) _
          rw [hTR.out]
          exact ⟨⟨⟨sa, sn, sc⟩, ⟨ua, un, uc⟩⟩, rfl, ((hra'.grown hgr (fun k e => by cases e; omega)).mono (B' := w.heap.size) (by have := hW0.size; omega) (fun _ h => h)).and ((hru.grown hgr (fun k e => by cases e; have := hgs; omega)).mono (B' := w.heap.size) (by have := hW0.size; have := hgs; omega) (fun _ h => h)) |>.mono (Nat.le_refl _) (fun _ h => ⟨h.1, h.2⟩), below_set (below_set hw hW1.size _) hW1.size _⟩
end Go.Proofs.YtenfnakhijobkaaGreat
namespace Go.Proofs.YtenfnakhijobkaaGreat
open Go.RowKit Go.Proofs.YtenfnakhijobkaaGreatW.PrintLast
/-- A list of numbers is returned, in memory of its own. -/
def RetInts (w : World) (xs : List Int) (e : Ending) (w' : World) : Prop := ∃ s : Sl, e = .returned (.slice s.a s.n s.c) ∧ Fr (fun W => RdInts W s xs) w.heap.size w' ∧ Below w.heap.size w w'

set_option maxHeartbeats 4000000 in
set_option maxRecDepth 100000 in
theorem Nth10_any (v : MktV) (m : MktD) (hm : MOk m) (w : World) (h : RdMkt w v m) (n : Nat) (hn : n ≤ 3000) :
    Calls Tryz.prog 103 #[.agg v.cs, .int .i64 n] w (RetInts w (nthP m n)) := by
  have HLs : Hid (m.sales.length = v.sales.n) := h.sales.len
  have hs4 : v.sales.n ≤ 4 := by have := hm.s4; have := HLs.out; omega
  obtain ⟨i0, hi0, hz0, hz1, hz2⟩ := info_parts info3
  have HI := Lib.hid hi0
  have HZ0 := Lib.hid hz0
  have HZ1 := Lib.hid hz1
  have HZ2 := Lib.hid hz2
  clear hi0 hz0 hz1 hz2
  go_enter Tryz.func103, Tryz.ntmps103
  go_wp2
  obtain ⟨W0, hNW0, BX, hW0, hzW0⟩ := Box.named w (MktV.cs v) 33
  rw [hNW0]
  clear hNW0
  go_loopw [1, 5, 6] (fun q r i wr => ∃ k y : Nat, ∃ vv : Value, ∃ xs : List Int, k ≤ v.sales.n ∧ i = .int .i64 k ∧ q = .int .i64 y ∧ vv = r ∧ y ≤ 3000 ∧ Hid ((xs, y) = nthF ((m.sales.take k).map (·.price)) n) ∧ xs.length = k ∧ wr.ownsRow W0.heap.size 3 1 vv k (xs.map (Value.int .i64)) ∧ Below W0.heap.size W0 wr) (fun _ _ i _ => v.sales.n - (intOf i).toNat)
  case atStart => exact ⟨0, n, _, [], Nat.zero_le _, rfl, rfl, rfl, hn, rfl, rfl, World.ownsRow_nil _ _ _ _, Below.refl _ _⟩
  case round =>
    obtain ⟨k, y, vv, xs, hk, rfl, rfl, rfl, hy, hq, hxl, hown, hb⟩ := hrel
    have HXL := Lib.hid hxl
    have HOWN := Lib.hid hown
    clear hxl hown
    have hw := below_on hW0 hb
    have c6 := (BX.lift hb).cell 6 (.slice v.sales.a v.sales.n v.sales.c) rfl
    by_cases hlt : k < v.sales.n
    · obtain ⟨x, hx⟩ := at_of_lt HLs.out hlt
      have HX := Lib.hid hx
      obtain ⟨b, o, ha, hbl, _, hc1, hc2⟩ := h.sales.sale_at hx
      have hrg := hm.prices x (List.mem_of_getElem? hx)
      unfold PrOk at hrg
      rw [ha] at c6
      clear hx ha
      have hc1 := lift hw hc1
      have hc2 := lift hw hc2
      go_wp2
      obtain ⟨W7, hNW7, BX7, hW7, hzW7⟩ := Box.named wr #[.int .i64 x.price.lo, .int .i64 x.price.hi] 65
      rw [hNW7]
      clear hNW7
      have e0 := BX7.cell 0 (.int .i64 x.price.lo) rfl
      have e1 := BX7.cell 1 (.int .i64 x.price.hi) rfl
      have hown7 := own_below HOWN.out hW7
      have HOWN7 := Lib.hid hown7
      clear hown7
      have a7 : vv.ownBlock ≠ some wr.heap.size := own_ne HOWN.out (Or.inr (Nat.le_refl _))
      have hm0 : (0 : Int) ≤ y := by omega
      obtain ⟨sz, hsz⟩ : ∃ sz : Nat, x.price.hi - x.price.lo + 1 = (sz : Int) := ⟨(x.price.hi - x.price.lo + 1).toNat, by omega⟩
      have HSZ := Lib.hid hsz
      have hsz1 : (1 : Int) ≤ sz := by omega
      have hsz2 : (sz : Int) ≤ 21 := by omega
      have hszb : ((sz : Int) == 0) = false := by simp; omega
      have hszn : ¬ sz = 0 := by omega
      have hml : k + 1 ≤ maxLen := by unfold maxLen; omega
      obtain ⟨mr, hmr⟩ : ∃ mr : Nat, y % sz = mr := ⟨_, rfl⟩
      obtain ⟨mq, hmq⟩ : ∃ mq : Nat, y / sz = mq := ⟨_, rfl⟩
      have hmm : mr < 21 := by have := Nat.mod_lt y (show 0 < sz by omega); omega
      have hmd : mq ≤ 3000 := by have := Nat.div_le_self y sz; omega
      have HMR := Lib.hid hmr
      have HMQ := Lib.hid hmq
      have hq1 : (y : Int).tmod sz = (mr : Int) := by rw [Int.tmod_eq_emod_of_nonneg hm0, ← hmr]; simp
      have hq2 : (y : Int).tdiv sz = (mq : Int) := by rw [Int.tdiv_eq_ediv_of_nonneg hm0, ← hmq]; simp
      clear hmr hmq
      have hw1 : IntKind.i64.wrap (mr : Int) = (mr : Int) := IntWalk.i64_in _ (by omega)
      have hw2 : IntKind.i64.wrap (mq : Int) = (mq : Int) := IntWalk.i64_in _ (by omega)
      have hw3 : IntKind.i64.wrap (x.price.lo + (mr : Int)) = x.price.lo + (mr : Int) := IntWalk.i64_in _ (by omega)
      clear hsz
      have hlt7 := hW7.size
      have hlt8 := BX7.lt
      have hlt9 := BX.lt
      have hlt10 := hb.size
      refine start_ (n := 16) (S := fun w' => w'.cell? ⟨wr.heap.size, 0, none⟩ = some (.int .i64 x.price.lo) ∧ w'.cell? ⟨wr.heap.size, 1, none⟩ = some (.int .i64 x.price.hi)) (ds := []) #[false, false, false, false, false, false, false, false, false, false, false, false, false, false, false, false] (by kernel_rfl) rfl rfl ⟨e0, e1⟩ (fun hHeld => ?_)
      obtain ⟨s0, s1⟩ := hHeld
      refine pure_ (i := 0) (N := some 21) (v := ?_) (a' := ?_) #[true, false, false, false, false, false, false, false, false, false, false, false, false, false, false, false] rfl rfl (by kernel_rfl) (fun _ _ _ h => h) (Or.inl ⟨by rfl, ?_⟩) ?_ ?_
      rotate_left
      · intro w'
        go_simp
        with_reducible rfl
      rotate_left
      · simp only [Act.put, List.setIfInBounds_toArray, List.set_cons_zero, List.set_cons_succ, i64_w, i32_w]
        rfl
      refine pure_ (i := 1) (N := some 22) (v := ?_) (a' := ?_) #[true, true, false, false, false, false, false, false, false, false, false, false, false, false, false, false] rfl rfl (by kernel_rfl) (fun _ _ _ h => h) (Or.inl ⟨by rfl, ?_⟩) ?_ ?_
      rotate_left
      · intro w'
        go_simp
        with_reducible rfl
      rotate_left
      · simp only [Act.put, List.setIfInBounds_toArray, List.set_cons_zero, List.set_cons_succ, i64_w, i32_w]
        rfl
      refine pure_ (i := 3) (N := some 24) (v := ?_) (a' := ?_) #[true, true, false, true, false, false, false, false, false, false, false, false, false, false, false, false] rfl rfl (by kernel_rfl) (fun _ _ _ h => h) (Or.inl ⟨by rfl, ?_⟩) ?_ ?_
      rotate_left
      · intro w'
        go_simp
        with_reducible rfl
      rotate_left
      · simp only [Act.put, List.setIfInBounds_toArray, List.set_cons_zero, List.set_cons_succ, i64_w, i32_w]
        rfl
      refine pure_ (i := 10) (N := some 31) (v := ?_) (a' := ?_) #[true, true, false, true, false, false, false, false, false, false, true, false, false, false, false, false] rfl rfl (by kernel_rfl) (fun _ _ _ h => h) (Or.inl ⟨by rfl, ?_⟩) ?_ ?_
      rotate_left
      · intro w'
        go_simp
        with_reducible rfl
      rotate_left
      · simp only [Act.put, List.setIfInBounds_toArray, List.set_cons_zero, List.set_cons_succ, i64_w, i32_w]
        rfl
      refine take_ (i := 2) (N := some 23) (v := ?_) (a' := ?_) #[true, true, true, true, false, false, false, false, false, false, true, false, false, false, false, false] rfl rfl (by kernel_rfl) (fun _ _ _ h => h) (Or.inl ⟨by rfl, ?_⟩) ⟨s0, s1⟩ ?_ ?_
      rotate_left
      · rintro w' ⟨zs0, zs1⟩
        go_simp
        with_reducible rfl
      rotate_left
      · simp only [Act.put, List.setIfInBounds_toArray, List.set_cons_zero, List.set_cons_succ, i64_w, i32_w]
        rfl
      refine take_ (i := 4) (N := some 25) (v := ?_) (a' := ?_) #[true, true, true, true, true, false, false, false, false, false, true, false, false, false, false, false] rfl rfl (by kernel_rfl) (fun _ _ _ h => h) (Or.inl ⟨by rfl, ?_⟩) ⟨s0, s1⟩ ?_ ?_
      rotate_left
      · rintro w' ⟨zs0, zs1⟩
        go_simp
        with_reducible rfl
      rotate_left
      · simp only [Act.put, List.setIfInBounds_toArray, List.set_cons_zero, List.set_cons_succ, i64_w, i32_w]
        rfl
      refine take_ (i := 11) (N := some 32) (v := ?_) (a' := ?_) #[true, true, true, true, true, false, false, false, false, false, true, true, false, false, false, false] rfl rfl (by kernel_rfl) (fun _ _ _ h => h) (Or.inl ⟨by rfl, ?_⟩) ⟨s0, s1⟩ ?_ ?_
      rotate_left
      · rintro w' ⟨zs0, zs1⟩
        go_simp
        with_reducible rfl
      rotate_left
      · simp only [Act.put, List.setIfInBounds_toArray, List.set_cons_zero, List.set_cons_succ, i64_w, i32_w]
        rfl
      refine one_ (i := 5) (N := some 26) #[true, true, true, true, true, true, false, false, false, false, true, true, false, false, false, false] rfl rfl (by kernel_rfl) (by decide) (fun K hK => ?_)
      refine goes_ Tryz.func136 (by kernel_rfl) rfl #[.agg #[.int .i64 x.price.lo, .int .i64 x.price.hi]] (by rfl) rfl rfl (by (try simp only [List.map_toArray, List.map_cons, List.map_nil]); first | done | rfl) ?_
      refine (call_val (Size06_any _ _ _ (by omega) (by omega) (by omega)) (u := .int .i64 sz) (by rw [HSZ.out])).mono ?_
      rintro e w1 ⟨rfl, hb1⟩
      refine ⟨_, rfl, ?_⟩
      have hown1 := own_below (own_below HOWN7.out (below_drew _)) hb1
      have hs1 := hb1.size
      simp only [World.size_drew] at hs1
      refine hK.out _ _ ⟨lift hb1 s0, lift hb1 s1⟩ (fun hHeld => ?_)
      clear hK K s0 s1
      obtain ⟨s0, s1⟩ := hHeld
      refine norm_ (a' := ?_) ?_ ?_
      rotate_left
      · show Act.put _ (some 26) _ = _
        simp only [Act.put, List.setIfInBounds_toArray, List.set_cons_zero, List.set_cons_succ, i64_w, i32_w]
        rfl
      refine pure_ (i := 6) (N := some 27) (v := ?_) (a' := ?_) #[true, true, true, true, true, true, true, false, false, false, true, true, false, false, false, false] rfl rfl (by kernel_rfl) (fun _ _ _ h => h) (Or.inl ⟨by rfl, ?_⟩) ?_ ?_
      rotate_left
      · intro w'
        go_simp
        with_reducible rfl
      rotate_left
      · simp only [Act.put, List.setIfInBounds_toArray, List.set_cons_zero, List.set_cons_succ, i64_w, i32_w]
        rfl
      refine pure_ (i := 7) (N := some 28) (v := ?_) (a' := ?_) #[true, true, true, true, true, true, true, true, false, false, true, true, false, false, false, false] rfl rfl (by kernel_rfl) (fun _ _ _ h => h) (Or.inl ⟨by rfl, ?_⟩) ?_ ?_
      rotate_left
      · intro w'
        go_simp
        with_reducible rfl
      rotate_left
      · simp only [Act.put, List.setIfInBounds_toArray, List.set_cons_zero, List.set_cons_succ, i64_w, i32_w]
        rfl
      refine one_ (i := 8) (N := some 29) #[true, true, true, true, true, true, true, true, true, false, true, true, false, false, false, false] rfl rfl (by kernel_rfl) (by decide) (fun K hK => ?_)
      refine value_ (w1 := ?_) (v := ?_) (by rfl) rfl ?_ ?_
      rotate_left 2
      · go_simp
        constructor
        · rfl
        · rfl
      refine hK.out _ _ ⟨lift (below_box _ _) s0, lift (below_box _ _) s1⟩ (fun hHeld => ?_)
      clear hK K s0 s1
      obtain ⟨s0, s1⟩ := hHeld
      refine norm_ (a' := ?_) ?_ ?_
      rotate_left
      · show Act.put _ (some 29) _ = _
        simp only [Act.put, List.setIfInBounds_toArray, List.set_cons_zero, List.set_cons_succ, i64_w, i32_w]
        rfl
      refine one_ (i := 9) (N := some 30) #[true, true, true, true, true, true, true, true, true, true, true, true, false, false, false, false] rfl rfl (by kernel_rfl) (by decide) (fun K hK => ?_)
      refine step_append_lies _ (by rfl) _ _ _ (by rfl) W0.heap.size 3 i0 _ 1 8 Tryz.underlying25 HI.out HZ0.out HZ1.out HZ2.out rfl (by omega) vv k (xs.map (Value.int .i64)) (by rfl) (hown1.alloc _) ⟨w1.heap.size, 0, none⟩ 1 1 [.int .i64 (x.price.lo + (mr : Int))] (by rfl) (by rfl) (World.news_of_block (cs := #[.int .i64 (x.price.lo + (mr : Int))]) (t := 3) (fr := (0, 0)) (heap_alloc_new w1 _)) (by simp [Value.oneCell']) (by omega) hml (by omega) (by simp; omega) (w1.heap.size + 1) (by simp) ?_
      intro gg cap w2 hown2 hgrow hat hlt
      refine hK.out _ _ ⟨lift_grown hgrow s0 a7, lift_grown hgrow s1 a7⟩ (fun hHeld => ?_)
      clear hK K s0 s1
      obtain ⟨s0, s1⟩ := hHeld
      refine norm_ (a' := ?_) ?_ ?_
      rotate_left
      · show Act.put _ (some 30) _ = _
        simp only [Act.put, List.setIfInBounds_toArray, List.set_cons_zero, List.set_cons_succ, i64_w, i32_w]
        rfl
      refine one_ (i := 12) (N := some 33) #[true, true, true, true, true, true, true, true, true, true, true, true, true, false, false, false] rfl rfl (by kernel_rfl) (by decide) (fun K hK => ?_)
      refine goes_ Tryz.func136 (by kernel_rfl) rfl #[.agg #[.int .i64 x.price.lo, .int .i64 x.price.hi]] (by rfl) rfl rfl (by (try simp only [List.map_toArray, List.map_cons, List.map_nil]); first | done | rfl) ?_
      refine (call_val (Size06_any _ _ _ (by omega) (by omega) (by omega)) (u := .int .i64 sz) (by rw [HSZ.out])).mono ?_
      rintro e w3 ⟨rfl, hb3⟩
      refine ⟨_, rfl, ?_⟩
      have hown3 := own_below hown2 hb3
      refine hK.out _ _ ⟨lift hb3 s0, lift hb3 s1⟩ (fun hHeld => ?_)
      clear hK K s0 s1
      obtain ⟨s0, s1⟩ := hHeld
      refine norm_ (a' := ?_) ?_ ?_
      rotate_left
      · show Act.put _ (some 33) _ = _
        simp only [Act.put, List.setIfInBounds_toArray, List.set_cons_zero, List.set_cons_succ, i64_w, i32_w]
        rfl
      refine pure_ (i := 13) (N := some 34) (v := ?_) (a' := ?_) #[true, true, true, true, true, true, true, true, true, true, true, true, true, true, false, false] rfl rfl (by kernel_rfl) (fun _ _ _ h => h) (Or.inl ⟨by rfl, ?_⟩) ?_ ?_
      rotate_left
      · intro w'
        go_simp
        with_reducible rfl
      rotate_left
      · simp only [Act.put, List.setIfInBounds_toArray, List.set_cons_zero, List.set_cons_succ, i64_w, i32_w]
        rfl
      refine pure_ (i := 14) (N := some 5) (v := ?_) (a' := ?_) #[true, true, true, true, true, true, true, true, true, true, true, true, true, true, true, false] rfl rfl (by kernel_rfl) (fun _ _ _ h => h) (Or.inl ⟨by rfl, ?_⟩) ?_ ?_
      rotate_left
      · intro w'
        go_simp
        with_reducible rfl
      rotate_left
      · simp only [Act.put, List.setIfInBounds_toArray, List.set_cons_zero, List.set_cons_succ, i64_w, i32_w]
        rfl
      refine pure_ (i := 15) (N := some 1) (v := ?_) (a' := ?_) #[true, true, true, true, true, true, true, true, true, true, true, true, true, true, true, true] rfl rfl (by kernel_rfl) (fun _ _ _ h => h) (Or.inl ⟨by rfl, ?_⟩) ?_ ?_
      rotate_left
      · intro w'
        go_simp
        with_reducible rfl
      rotate_left
      · simp only [Act.put, List.setIfInBounds_toArray, List.set_cons_zero, List.set_cons_succ, i64_w, i32_w]
        rfl
      refine done_ (by kernel_rfl) ?_
      go_wp2
      go_roundw
      case measure => simp [intOf]; omega
      case rel =>
        refine ⟨k + 1, mq, _, xs ++ [x.price.lo + (mr : Int)], by omega, by go_num, rfl, rfl, hmd, ?_, by simp [HXL.out], ?_, ?_⟩
        · have hq' : (xs, y) = nthF ((m.sales.take k).map (·.price)) n := hq
          show (_, mq) = nthF ((m.sales.take (k + 1)).map (·.price)) n
          have e : x.price.size.toNat = sz := by have := HSZ.out; unfold Rg.size; omega
          unfold nthF at hq' ⊢
          rw [List.map_take, take_foldl _ _ (x := x.price) (by simp [HX.out]), ← List.map_take, ← hq', nthStep, e, HMR.out, HMQ.out]
        · simpa using hown3
        · exact below_on ((below_on (below_on (below_on (below_on hb hW7) (below_drew _)) hb1) (below_box _ _)).grown hgrow (below_on (below_on (below_on (below_on hb hW7) (below_drew _)) hb1) (below_box _ _)).size (fun b hbb => (HOWN.out.lt b hbb).1)) hb3
    · obtain rfl : k = v.sales.n := by omega
      have HQ : Hid (xs = nthP m n) := by
        have h1 : (xs, y) = nthF ((m.sales.take v.sales.n).map (·.price)) n := hq
        rw [take_len HLs.out] at h1
        show xs = nthP m n
        rw [nthP, ← h1]
      clear hq
      obtain ⟨⟨ua, un, uc⟩, hvu, hun, hrub, hru⟩ := own_ints HXL.out (by omega) HOWN.out
      simp only at hvu hun
      subst hvu hun
      go_wp2
      go_ret
      rw [← HQ.out]
      exact ⟨⟨ua, _, uc⟩, rfl, hru.mono hW0.size (fun _ h => h), hw⟩
end Go.Proofs.YtenfnakhijobkaaGreat
namespace Go.Proofs.YtenfnakhijobkaaGreat
open Go.RowKit Go.Proofs.YtenfnakhijobkaaGreatW.PrintLast

theorem arePrices_bad {m : MktD} {l : List Int} {n k : Nat} (hl : l.length = n) (hk : k < n) (h : priceAt m l k = false) : false = arePrices m l := by
  rw [arePrices, hl, range_all_of hk h, Bool.and_false]
set_option maxHeartbeats 2000000 in
theorem ArePrices_any (v : MktV) (m : MktD) (hm : MOk m) (s : Sl) (l : List Int) (w : World) (h : RdMkt w v m) (hx : RdInts w s l) :
    Calls Tryz.prog 78 #[.agg v.cs, .slice s.a s.n s.c] w fun e w' => e = .returned (.bool (arePrices m l)) ∧ Below w.heap.size w w' := by
  obtain ⟨sa, sn, sc⟩ := s
  have hs : sn ≤ 281474976710656 := by have := hx.small; simp at this; omega
  have HL : Hid (l.length = sn) := hx.len
  have HLs : Hid (m.sales.length = v.sales.n) := h.sales.len
  have hs4 : v.sales.n ≤ 4 := by have := hm.s4; have := HLs.out; omega
  have hst0 : Hid (v.step = m.step) := h.step
  have hst := hm.step
  rw [← hst0.out] at hst
  by_cases hlen : sn = v.sales.n
  case neg =>
    have hlenb : ((sn : Int) != (v.sales.n : Int)) = true := by simp [hlen]; omega
    have HLN := Lib.hid hlen
    clear hlen
    go_enter Tryz.func78, Tryz.ntmps78
    go_wp2
    go_ret
    exact ⟨ret_bool (by rw [arePrices, HL.out, HLs.out, decide_eq_false HLN.out, Bool.false_and]), below_box _ _⟩
  have hlenb : ((sn : Int) != (v.sales.n : Int)) = false := by simp [hlen]
  have HLN := Lib.hid hlen
  clear hlen
  go_enter Tryz.func78, Tryz.ntmps78
  go_wp2
  obtain ⟨W0, hNW0, BX, hW0, hzW0⟩ := Box.named w (MktV.cs v) 33
  rw [hNW0]
  clear hNW0
  go_loopw [5] (fun i wr => ∃ k : Nat, k ≤ sn ∧ i = .int .i64 k ∧ Hid ((List.range k).all (priceAt m l) = true) ∧ Below W0.heap.size W0 wr) (fun i _ => sn - (intOf i).toNat)
  case atStart => exact ⟨0, Nat.zero_le _, rfl, by simp [Hid], Below.refl _ _⟩
  case round =>
    obtain ⟨k, hk, rfl, hq, hb⟩ := hrel
    have hw := below_on hW0 hb
    have c6 := (BX.lift hb).cell 6 (.slice v.sales.a v.sales.n v.sales.c) rfl
    have c8 := (BX.lift hb).cell 8 (.int .i64 v.step) rfl
    by_cases hlt : k < sn
    · obtain ⟨x, hx'⟩ := at_of_lt HL.out hlt
      obtain ⟨b, o, ha', hbl, hc1⟩ := hx.int_at hx'
      have hc1 := lift hw hc1
      have HX := Lib.hid hx'
      simp only at ha'
      subst ha'
      obtain ⟨y, hy⟩ := at_of_lt HLs.out (show k < v.sales.n by have := HLN.out; omega)
      obtain ⟨b2, o2, ha, hbl2, _, hd1, hd2⟩ := h.sales.sale_at hy
      have hd1 := lift hw hd1
      have hd2 := lift hw hd2
      rw [ha] at c6
      have hlt2 : k < v.sales.n := by have := HLN.out; omega
      have HP : Hid (priceAt m l k = (inB x y.price.lo y.price.hi && (decide (k = 0) || near m.step (l.getD (k - 1) 0) x))) := by
        show _ = _
        have e1 : m.priceOf k = y.price := by simp [MktD.priceOf, hy]
        have e2 : l.getD k 0 = x := by rw [List.getD_eq_getElem?_getD, hx']; rfl
        rw [priceAt, e1, e2]; rfl
      have hpr := hm.prices y (List.mem_of_getElem? hy)
      unfold PrOk at hpr
      clear hx' ha hy
      cases hin : inB x y.price.lo y.price.hi
      · have HIN := Lib.hid hin
        go_wp2
        have zz0 := fun x : After wr => At.cell c6 x
        have zz1 := fun x : After wr => At.cell c8 x
        have zz2 := fun x : After wr => At.cell hc1 x
        have zz3 := fun x : After wr => At.cell hd1 x
        have zz4 := fun x : After wr => At.cell hd2 x
        refine wp_region_after (by kernel_rfl) (by kernel_rfl) ?_
        repeat (go_big_quiet_step ((go_at_call 135; exact after_call (call_b (Is_any _ _ _ _) hin))))
        refine wpQuiet_nil ?_
        intro W2 hbW2
        clear zz0 zz1 zz2 zz3 zz4
        go_wp2
        go_ret
        exact ⟨ret_bool (arePrices_bad HL.out hlt (by rw [HP.out, HIN.out]; rfl)), below_on hw hbW2⟩
      have HIN := Lib.hid hin
      have hxb := inB_iff.1 hin
      cases k with
      | zero =>
        simp only [Nat.add_zero, Nat.zero_mul] at hc1 hd1 hd2
        go_wp2
        have zz0 := fun x : After wr => At.cell c6 x
        have zz1 := fun x : After wr => At.cell c8 x
        have zz2 := fun x : After wr => At.cell hc1 x
        have zz3 := fun x : After wr => At.cell hd1 x
        have zz4 := fun x : After wr => At.cell hd2 x
        refine wp_region_after (by kernel_rfl) (by kernel_rfl) ?_
        repeat (go_big_quiet_step ((go_at_call 135; exact after_call (call_b (Is_any _ _ _ _) hin))))
        refine wpQuiet_nil ?_
        intro W2 hbW2
        clear zz0 zz1 zz2 zz3 zz4
        go_wp2
        go_roundw
        case rel => exact ⟨1, by omega, by go_num, by
          show (List.range (0 + 1)).all _ = true
          rw [range_all_succ, HP.out, HIN.out]; rfl, below_on hb hbW2⟩
        case measure => simp [intOf]; omega
      | succ j =>
        obtain ⟨z, hz⟩ := at_of_lt HL.out (show j < sn by omega)
        obtain ⟨b', o', ha', hbl', hc2⟩ := hx.int_at hz
        have hc2 := lift hw hc2
        simp only [Option.some.injEq, Addr.mk.injEq, and_true] at ha'
        obtain ⟨rfl, rfl⟩ := ha'
        have HZ : Hid (l.getD (j + 1 - 1) 0 = z) := by show _ = _; rw [List.getD_eq_getElem?_getD, show j + 1 - 1 = j from rfl, hz]; rfl
        have hzb : 0 ≤ z ∧ z ≤ 20 := by
          have h1 := hq.out
          rw [range_all_succ, Bool.and_eq_true] at h1
          have h2 := h1.2
          rw [priceAt, Bool.and_eq_true] at h2
          have h3 := h2.1
          obtain ⟨u, hu⟩ := at_of_lt HLs.out (show j < v.sales.n by omega)
          have e1 : m.priceOf j = u.price := by simp [MktD.priceOf, hu]
          have e2 : l.getD j 0 = z := by rw [List.getD_eq_getElem?_getD, hz]; rfl
          rw [e1, e2, Rg.has, inB_iff] at h3
          have := hm.prices u (List.mem_of_getElem? hu)
          unfold PrOk at this
          omega
        clear hz
        have HNR : Hid (priceAt m l (j + 1) = inB (x - z) (-v.step) v.step) := by
          show _ = _
          rw [HP.out, HIN.out, HZ.out, near, hst0.out]; simp
        by_cases h1 : v.step < x - z
        · have HB : Hid (priceAt m l (j + 1) = false) := by
            show _ = _
            rw [HNR.out, ← Bool.not_eq_true, inB_iff]; omega
          have hd : decide (v.step < x - z) = true := decide_eq_true h1
          clear h1
          go_wp2
          have zz0 := fun x : After wr => At.cell c6 x
          have zz1 := fun x : After wr => At.cell c8 x
          have zz2 := fun x : After wr => At.cell hc1 x
          have zz3 := fun x : After wr => At.cell hd1 x
          have zz4 := fun x : After wr => At.cell hd2 x
          have zz5 := fun x : After wr => At.cell hc2 x
          refine wp_region_after (by kernel_rfl) (by kernel_rfl) ?_
          repeat (go_big_quiet_step ((go_at_call 135; exact after_call (call_b (Is_any _ _ _ _) hin))))
          refine wpQuiet_nil ?_
          intro W2 hbW2
          clear zz0 zz1 zz2 zz3 zz4 zz5
          go_wp2
          go_ret
          exact ⟨ret_bool (arePrices_bad HL.out hlt HB.out), below_on hw hbW2⟩
        have hd : decide (v.step < x - z) = false := decide_eq_false h1
        by_cases h2 : v.step < z - x
        · have HB : Hid (priceAt m l (j + 1) = false) := by
            show _ = _
            rw [HNR.out, ← Bool.not_eq_true, inB_iff]; omega
          have hd2' : decide (v.step < z - x) = true := decide_eq_true h2
          clear h1 h2
          go_wp2
          have zz0 := fun x : After wr => At.cell c6 x
          have zz1 := fun x : After wr => At.cell c8 x
          have zz2 := fun x : After wr => At.cell hc1 x
          have zz3 := fun x : After wr => At.cell hd1 x
          have zz4 := fun x : After wr => At.cell hd2 x
          have zz5 := fun x : After wr => At.cell hc2 x
          refine wp_region_after (by kernel_rfl) (by kernel_rfl) ?_
          repeat (go_big_quiet_step ((go_at_call 135; exact after_call (call_b (Is_any _ _ _ _) hin))))
          refine wpQuiet_nil ?_
          intro W2 hbW2
          clear zz0 zz1 zz2 zz3 zz4 zz5
          go_wp2
          go_ret
          exact ⟨ret_bool (arePrices_bad HL.out hlt HB.out), below_on hw hbW2⟩
        have hd2' : decide (v.step < z - x) = false := decide_eq_false h2
        have HB : Hid (priceAt m l (j + 1) = true) := by
          show _ = _
          rw [HNR.out, inB_iff]; omega
        clear h1 h2
        go_wp2
        have zz0 := fun x : After wr => At.cell c6 x
        have zz1 := fun x : After wr => At.cell c8 x
        have zz2 := fun x : After wr => At.cell hc1 x
        have zz3 := fun x : After wr => At.cell hd1 x
        have zz4 := fun x : After wr => At.cell hd2 x
        have zz5 := fun x : After wr => At.cell hc2 x
        refine wp_region_after (by kernel_rfl) (by kernel_rfl) ?_
        repeat (go_big_quiet_step ((go_at_call 135; exact after_call (call_b (Is_any _ _ _ _) hin))))
        refine wpQuiet_nil ?_
        intro W2 hbW2
        clear zz0 zz1 zz2 zz3 zz4 zz5
        go_wp2
        go_roundw
        case rel => exact ⟨j + 1 + 1, by omega, by go_num, by
          show (List.range (j + 1 + 1)).all _ = true
          rw [range_all_succ, HB.out, hq.out]; rfl, below_on hb hbW2⟩
        case measure => simp [intOf]; omega
    · obtain rfl : sn = k := by omega
      have HQ : Hid (arePrices m l = true) := by
        show _ = _
        rw [arePrices, HL.out, hq.out, HLs.out, decide_eq_true HLN.out]; rfl
      clear hq
      go_wp2
      go_ret
      exact ⟨ret_bool HQ.out.symm, hw⟩

theorem arePrices_at {m : MktD} {l : List Int} (hm : MOk m) (h : arePrices m l = true) : l.length = m.sales.length ∧ ∀ x ∈ l, 0 ≤ x ∧ x ≤ 20 := by
  rw [arePrices, Bool.and_eq_true, decide_eq_true_eq, List.all_eq_true] at h
  refine ⟨h.1, fun x hx => ?_⟩
  obtain ⟨k, hk⟩ := List.getElem?_of_mem hx
  have hlt := lt_of_at hk
  have h2 := h.2 k (List.mem_range.2 hlt)
  rw [priceAt, Bool.and_eq_true] at h2
  obtain ⟨u, hu⟩ := at_of_lt (n := m.sales.length) rfl (show k < m.sales.length by omega)
  have h3 := h2.1
  rw [show m.priceOf k = u.price by simp [MktD.priceOf, hu], List.getD_eq_getElem?_getD, hk, Rg.has, inB_iff] at h3
  have := hm.prices u (List.mem_of_getElem? hu)
  unfold PrOk at this
  simp at h3
  omega
set_option maxHeartbeats 1000000 in
theorem Right10_any (v : MktV) (m : MktD) (hm : MOk m) (s : Sl) (l : List Int) (hl : l.length = m.sales.length) (w : World) (h : RdMkt w v m) (hx : RdInts w s l) :
    Calls Tryz.prog 104 #[.agg v.cs, .slice s.a s.n s.c] w fun e w' => e = .returned (.int .i64 (bitsN (m.notes.map (nRight l)))) ∧ Below w.heap.size w w' := by
  obtain ⟨sa, sn, sc⟩ := s
  have HL : Hid (l.length = sn) := hx.len
  have HLs : Hid (l.length = m.sales.length) := hl
  have HLn : Hid (m.notes.length = v.notes.n) := h.notes.len
  have hn5 : v.notes.n ≤ 5 := by have := hm.n5; have := HLn.out; omega
  clear hl
  go_enter Tryz.func104, Tryz.ntmps104
  go_wp2
  obtain ⟨W0, hNW0, BX, hW0, hzW0⟩ := Box.named w (MktV.cs v) 33
  rw [hNW0]
  clear hNW0
  go_loopw [5, 6] (fun r i wr => ∃ k : Nat, ∃ a : Nat, k ≤ v.notes.n ∧ i = .int .i64 k ∧ r = .int .i64 a ∧ a < 2 ^ k ∧ Hid (a = bitsN ((m.notes.take k).map (nRight l))) ∧ Below W0.heap.size W0 wr) (fun _ i _ => v.notes.n - (intOf i).toNat)
  case atStart => exact ⟨0, 0, Nat.zero_le _, rfl, rfl, by simp, by simp [Hid, bitsN], Below.refl _ _⟩
  case round =>
    obtain ⟨k, a, hk, rfl, rfl, hak, hq, hb⟩ := hrel
    have hw := below_on hW0 hb
    have c10 := (BX.lift hb).cell 10 (.slice v.notes.a v.notes.n v.notes.c) rfl
    by_cases hlt : k < v.notes.n
    · obtain ⟨x, hx'⟩ := at_of_lt HLn.out hlt
      have HX := Lib.hid hx'
      obtain ⟨b, o, ha, hbl, hc1, hc2, hc3⟩ := h.notes.note_at hx'
      have hnk := hm.notes x (List.mem_of_getElem? hx')
      obtain ⟨sl, hsl⟩ := Int.eq_ofNat_of_zero_le hnk.1
      have hsn : sl < sn := by have := HL.out; have := HLs.out; omega
      obtain ⟨p, hp⟩ := at_of_lt HL.out hsn
      obtain ⟨b2, o2, ha2, hbl2, hd1⟩ := hx.int_at hp
      have HNR : Hid (nRight l x = inB p x.price.lo x.price.hi) := by
        show _ = _
        rw [nRight, hsl, gI_nat, hp]; rfl
      rw [hsl] at hc1
      have hc1 := lift hw hc1
      have hc2 := lift hw hc2
      have hc3 := lift hw hc3
      have hd1 := lift hw hd1
      rw [ha] at c10
      simp only at ha2
      subst ha2
      clear hx' hp ha hsl hnk
      go_wp2
      obtain ⟨W3, hNW3, BX3, hW3, hzW3⟩ := Box.named wr #[.int .i64 (sl : Int), .int .i64 x.price.lo, .int .i64 x.price.hi] 107
      rw [hNW3]
      clear hNW3
      have hb3 := hb.trans (hW3.mono hb.size)
      have e0 := BX3.cell 0 (.int .i64 sl) rfl
      have e1 := BX3.cell 1 (.int .i64 x.price.lo) rfl
      have e2 := BX3.cell 2 (.int .i64 x.price.hi) rfl
      have hd1 := lift hW3 hd1
      cases hwr : inB p x.price.lo x.price.hi
      · have HWR : Hid (nRight l x = false) := HNR.out.trans hwr
        have zz0 := fun x : After W3 => At.cell e0 x
        have zz1 := fun x : After W3 => At.cell e1 x
        have zz2 := fun x : After W3 => At.cell e2 x
        have zz3 := fun x : After W3 => At.cell hd1 x
        refine wp_region_after (by kernel_rfl) (by kernel_rfl) ?_
        repeat (go_big_quiet_step ((go_at_call 135; exact after_call (call_b (Is_any _ _ _ _) hwr))))
        refine wpQuiet_nil ?_
        intro W4 hbW4
        clear zz0 zz1 zz2 zz3
        go_wp2
        go_roundw
        case rel => exact ⟨k + 1, a, by omega, by go_num, rfl, Nat.lt_of_lt_of_le hak (Nat.pow_le_pow_right (by omega) (by omega)), by
          have h1 : a = _ := hq
          show a = bitsN ((m.notes.take (k + 1)).map (nRight l))
          rw [take_map_snoc _ HX.out, bitsN_snoc, HWR.out, ← h1]; simp, hb3.trans (hbW4.mono hb3.size)⟩
        case measure => simp [intOf]; omega
      · have HWR : Hid (nRight l x = true) := HNR.out.trans hwr
        have zz0 := fun x : After W3 => At.cell e0 x
        have zz1 := fun x : After W3 => At.cell e1 x
        have zz2 := fun x : After W3 => At.cell e2 x
        have zz3 := fun x : After W3 => At.cell hd1 x
        refine wp_region_after (by kernel_rfl) (by kernel_rfl) ?_
        repeat (go_big_quiet_step ((go_at_call 135; exact after_call (call_b (Is_any _ _ _ _) hwr))))
        refine wpQuiet_nil ?_
        intro W4 hbW4
        clear zz0 zz1 zz2 zz3
        have HOR := Lib.hid (bits_or (a := a) (k := k) (by omega) hak)
        go_wp2
        go_roundw
        case rel => exact ⟨k + 1, a + 2 ^ k, by omega, by go_num, by rw [HOR.out], by rw [Nat.pow_succ]; omega, by
          have h1 : a = _ := hq
          have h2 : ((m.notes.take k).map (nRight l)).length = k := by have := HLn.out; simp; omega
          show a + 2 ^ k = bitsN ((m.notes.take (k + 1)).map (nRight l))
          rw [take_map_snoc _ HX.out, bitsN_snoc, HWR.out, ← h1, h2]; simp, hb3.trans (hbW4.mono hb3.size)⟩
        case measure => simp [intOf]; omega
    · obtain rfl : k = v.notes.n := by omega
      have HQ : Hid (a = bitsN (m.notes.map (nRight l))) := by
        have h1 : a = _ := hq
        rwa [take_len HLn.out] at h1
      clear hq
      go_wp2
      go_ret
      exact ⟨ret_int (by rw [HQ.out]), hw⟩
theorem Full10_any (v : MktV) (m : MktD) (hm : MOk m) (w : World) (h : RdMkt w v m) :
    Calls Tryz.prog 66 #[.agg v.cs] w fun e w' => e = .returned (.int .i64 ((2 ^ m.notes.length - 1 : Nat) : Int)) ∧ Below w.heap.size w w' := by
  have HLn : Hid (m.notes.length = v.notes.n) := h.notes.len
  have hn5 : v.notes.n ≤ 5 := by have := hm.n5; have := HLn.out; omega
  go_enter Tryz.func66, Tryz.ntmps66
  go_wp2
  go_ret
  refine ⟨ret_int ?_, below_box _ _⟩
  rw [HLn.out, ← full_all v.notes.n hn5]
set_option maxHeartbeats 1000000 in
theorem IsTruth10_any (v : MktV) (m : MktD) (hm : MOk m) (s : Sl) (l : List Int) (w : World) (h : RdMkt w v m) (hx : RdInts w s l) :
    Calls Tryz.prog 77 #[.agg v.cs, .slice s.a s.n s.c] w fun e w' => e = .returned (.bool (isTruth m l)) ∧ Below w.heap.size w w' := by
  cases har : arePrices m l
  · have HR : Hid (isTruth m l = false) := by show _ = _; rw [isTruth, har]; rfl
    go_enter Tryz.func77, Tryz.ntmps77
    go_wp2
    obtain ⟨W0, hNW0, BX, hW0, hzW0⟩ := Box.named w (MktV.cs v) 33
    rw [hNW0]
    clear hNW0
    have c0 := BX.cell 0 (.int .i64 v.loft.last) rfl
    have c1 := BX.cell 1 (.slice v.loft.air.a v.loft.air.n v.loft.air.c) rfl
    have c2 := BX.cell 2 (.slice v.loft.shelves.a v.loft.shelves.n v.loft.shelves.c) rfl
    have c3 := BX.cell 3 (.slice v.loft.cakes.a v.loft.cakes.n v.loft.cakes.c) rfl
    have c4 := BX.cell 4 (.slice v.loft.put.a v.loft.put.n v.loft.put.c) rfl
    have c5 := BX.cell 5 (.slice v.loft.weights.a v.loft.weights.n v.loft.weights.c) rfl
    have c6 := BX.cell 6 (.slice v.sales.a v.sales.n v.sales.c) rfl
    have c7 := BX.cell 7 (.slice v.chests.a v.chests.n v.chests.c) rfl
    have c8 := BX.cell 8 (.int .i64 v.step) rfl
    have c9 := BX.cell 9 (.int .i64 v.lots) rfl
    have c10 := BX.cell 10 (.slice v.notes.a v.notes.n v.notes.c) rfl
    have zz0 := fun x : After W0 => At.cell c0 x
    have zz1 := fun x : After W0 => At.cell c1 x
    have zz2 := fun x : After W0 => At.cell c2 x
    have zz3 := fun x : After W0 => At.cell c3 x
    have zz4 := fun x : After W0 => At.cell c4 x
    have zz5 := fun x : After W0 => At.cell c5 x
    have zz6 := fun x : After W0 => At.cell c6 x
    have zz7 := fun x : After W0 => At.cell c7 x
    have zz8 := fun x : After W0 => At.cell c8 x
    have zz9 := fun x : After W0 => At.cell c9 x
    have zz10 := fun x : After W0 => At.cell c10 x
    refine wp_region_after (by kernel_rfl) (by kernel_rfl) ?_
    repeat (go_big_quiet_step ((go_at_call 78; exact after_call (call_b (ArePrices_any v m hm s l _ (h.below (hW0.trans ((At.below _).mono hW0.size))) (hx.below (encR_mono _) (hW0.trans ((At.below _).mono hW0.size)))) har))))
    refine wpQuiet_nil ?_
    intro W2 hbW2
    clear zz0 zz1 zz2 zz3 zz4 zz5 zz6 zz7 zz8 zz9 zz10
    go_wp2
    go_ret
    exact ⟨ret_bool HR.out.symm, below_on hW0 hbW2⟩
  · have hl := (arePrices_at hm har).1
    obtain ⟨F, hF⟩ : ∃ F : Int, ((2 ^ m.notes.length - 1 : Nat) : Int) = F := ⟨_, rfl⟩
    obtain ⟨G, hG⟩ : ∃ G : Int, ((bitsN (m.notes.map (nRight l)) : Nat) : Int) = G := ⟨_, rfl⟩
    have hR : isTruth m l = (G == F) := by
      rw [isTruth, har, Bool.true_and, ← hG, ← hF]
      have h1 := nFull_iff m l
      cases h2 : m.notes.all (nRight l)
      · rw [h2] at h1
        symm
        rw [beq_eq_false_iff_ne]
        intro h3
        have := h1.1 (by omega)
        cases this
      · rw [h1.2 h2]; simp
    have HF := Lib.hid hF
    have HG := Lib.hid hG
    clear hF hG
    cases hgf : (G == F)
    all_goals rw [hgf] at hR
    all_goals have HR := Lib.hid hR
    all_goals clear hR
    all_goals go_enter Tryz.func77, Tryz.ntmps77
    all_goals go_wp2
    · obtain ⟨W0, hNW0, BX, hW0, hzW0⟩ := Box.named w (MktV.cs v) 33
      rw [hNW0]
      clear hNW0
      have c0 := BX.cell 0 (.int .i64 v.loft.last) rfl
      have c1 := BX.cell 1 (.slice v.loft.air.a v.loft.air.n v.loft.air.c) rfl
      have c2 := BX.cell 2 (.slice v.loft.shelves.a v.loft.shelves.n v.loft.shelves.c) rfl
      have c3 := BX.cell 3 (.slice v.loft.cakes.a v.loft.cakes.n v.loft.cakes.c) rfl
      have c4 := BX.cell 4 (.slice v.loft.put.a v.loft.put.n v.loft.put.c) rfl
      have c5 := BX.cell 5 (.slice v.loft.weights.a v.loft.weights.n v.loft.weights.c) rfl
      have c6 := BX.cell 6 (.slice v.sales.a v.sales.n v.sales.c) rfl
      have c7 := BX.cell 7 (.slice v.chests.a v.chests.n v.chests.c) rfl
      have c8 := BX.cell 8 (.int .i64 v.step) rfl
      have c9 := BX.cell 9 (.int .i64 v.lots) rfl
      have c10 := BX.cell 10 (.slice v.notes.a v.notes.n v.notes.c) rfl
      have zz0 := fun x : After W0 => At.cell c0 x
      have zz1 := fun x : After W0 => At.cell c1 x
      have zz2 := fun x : After W0 => At.cell c2 x
      have zz3 := fun x : After W0 => At.cell c3 x
      have zz4 := fun x : After W0 => At.cell c4 x
      have zz5 := fun x : After W0 => At.cell c5 x
      have zz6 := fun x : After W0 => At.cell c6 x
      have zz7 := fun x : After W0 => At.cell c7 x
      have zz8 := fun x : After W0 => At.cell c8 x
      have zz9 := fun x : After W0 => At.cell c9 x
      have zz10 := fun x : After W0 => At.cell c10 x
      refine wp_region_after (by kernel_rfl) (by kernel_rfl) ?_
      repeat (go_big_quiet_step ((first | (go_at_call 78; exact after_call (call_b (ArePrices_any v m hm s l _ (h.below (hW0.trans ((At.below _).mono hW0.size))) (hx.below (encR_mono _) (hW0.trans ((At.below _).mono hW0.size)))) har)) | (go_at_call 104; exact after_call (call_val (Right10_any v m hm s l hl _ (h.below (hW0.trans ((At.below _).mono hW0.size))) (hx.below (encR_mono _) (hW0.trans ((At.below _).mono hW0.size)))) (u := .int .i64 G) (by rw [HG.out]))) | (go_at_call 66; exact after_call (call_val (Full10_any v m hm _ (h.below (hW0.trans ((At.below _).mono hW0.size)))) (u := .int .i64 F) (by rw [HF.out]))))))
      refine wpQuiet_nil ?_
      intro W2 hbW2
      clear zz0 zz1 zz2 zz3 zz4 zz5 zz6 zz7 zz8 zz9 zz10
      go_wp2
      go_ret
      exact ⟨ret_bool HR.out.symm, below_on hW0 hbW2⟩
    · obtain ⟨W0, hNW0, BX, hW0, hzW0⟩ := Box.named w (MktV.cs v) 33
      rw [hNW0]
      clear hNW0
      have c0 := BX.cell 0 (.int .i64 v.loft.last) rfl
      have c1 := BX.cell 1 (.slice v.loft.air.a v.loft.air.n v.loft.air.c) rfl
      have c2 := BX.cell 2 (.slice v.loft.shelves.a v.loft.shelves.n v.loft.shelves.c) rfl
      have c3 := BX.cell 3 (.slice v.loft.cakes.a v.loft.cakes.n v.loft.cakes.c) rfl
      have c4 := BX.cell 4 (.slice v.loft.put.a v.loft.put.n v.loft.put.c) rfl
      have c5 := BX.cell 5 (.slice v.loft.weights.a v.loft.weights.n v.loft.weights.c) rfl
      have c6 := BX.cell 6 (.slice v.sales.a v.sales.n v.sales.c) rfl
      have c7 := BX.cell 7 (.slice v.chests.a v.chests.n v.chests.c) rfl
      have c8 := BX.cell 8 (.int .i64 v.step) rfl
      have c9 := BX.cell 9 (.int .i64 v.lots) rfl
      have c10 := BX.cell 10 (.slice v.notes.a v.notes.n v.notes.c) rfl
      have zz0 := fun x : After W0 => At.cell c0 x
      have zz1 := fun x : After W0 => At.cell c1 x
      have zz2 := fun x : After W0 => At.cell c2 x
      have zz3 := fun x : After W0 => At.cell c3 x
      have zz4 := fun x : After W0 => At.cell c4 x
      have zz5 := fun x : After W0 => At.cell c5 x
      have zz6 := fun x : After W0 => At.cell c6 x
      have zz7 := fun x : After W0 => At.cell c7 x
      have zz8 := fun x : After W0 => At.cell c8 x
      have zz9 := fun x : After W0 => At.cell c9 x
      have zz10 := fun x : After W0 => At.cell c10 x
      refine wp_region_after (by kernel_rfl) (by kernel_rfl) ?_
      repeat (go_big_quiet_step ((first | (go_at_call 78; exact after_call (call_b (ArePrices_any v m hm s l _ (h.below (hW0.trans ((At.below _).mono hW0.size))) (hx.below (encR_mono _) (hW0.trans ((At.below _).mono hW0.size)))) har)) | (go_at_call 104; exact after_call (call_val (Right10_any v m hm s l hl _ (h.below (hW0.trans ((At.below _).mono hW0.size))) (hx.below (encR_mono _) (hW0.trans ((At.below _).mono hW0.size)))) (u := .int .i64 G) (by rw [HG.out]))) | (go_at_call 66; exact after_call (call_val (Full10_any v m hm _ (h.below (hW0.trans ((At.below _).mono hW0.size)))) (u := .int .i64 F) (by rw [HF.out]))))))
      refine wpQuiet_nil ?_
      intro W2 hbW2
      clear zz0 zz1 zz2 zz3 zz4 zz5 zz6 zz7 zz8 zz9 zz10
      go_wp2
      go_ret
      exact ⟨ret_bool HR.out.symm, below_on hW0 hbW2⟩
end Go.Proofs.YtenfnakhijobkaaGreat
namespace Go.Proofs.YtenfnakhijobkaaGreat
open Go.RowKit

def RgOk (r : Rg) : Prop := 0 ≤ r.lo ∧ r.lo ≤ r.hi ∧ r.hi ≤ 40
theorem RgOk.size_pos {r : Rg} (h : RgOk r) : 1 ≤ r.size ∧ r.size ≤ 41 := by unfold RgOk at h; unfold Rg.size; omega
theorem mul_bounds {z s : Int} (hz : 1 ≤ z ∧ z ≤ 3000) (hs : 1 ≤ s ∧ s ≤ 41) : 1 ≤ z * s ∧ z * s ≤ 123000 := by
  have h1 : 1 * 1 ≤ z * s := Int.mul_le_mul hz.1 hs.1 (by omega) (by omega)
  have h2 : z * s ≤ 3000 * 41 := Int.mul_le_mul hz.2 hs.2 (by omega) (by omega)
  omega

set_option maxHeartbeats 1000000 in
theorem Many06_any (v : LoftV) (l : LoftD) (w : World) (h : RdLoft w v l) (hva : ∀ r ∈ l.air, RgOk r) (hvc : ∀ c ∈ l.cakes, RgOk c.water) :
    Calls Tryz.prog 89 #[.agg v.cs] w fun e w' => e = .returned (.int .i64 (capMul 3000 l.sizes)) ∧ Below w.heap.size w w' := by
  obtain ⟨vl, ⟨aa, an, ac⟩, ⟨ba, bn, bc⟩, ⟨ca, cn, cc⟩, ⟨pa, pn, pc⟩, ⟨wa, wn, wc⟩⟩ := v
  have hn1 : an ≤ 281474976710656 := h.nle.1
  have hn3 : cn ≤ 281474976710656 := h.nle.2.2.1
  have HLa : Hid (l.air.length = an) := h.air.len
  have HLc : Hid (l.cakes.length = cn) := h.cakes.len
  have HVA := Lib.hid hva
  have HVC := Lib.hid hvc
  clear hva hvc
  go_enter Tryz.func89, Tryz.ntmps89
  go_wp2
  obtain ⟨W0, hNW0, BX, hW0, hzW0⟩ := Box.named w (LoftV.cs ⟨vl, ⟨aa, an, ac⟩, ⟨ba, bn, bc⟩, ⟨ca, cn, cc⟩, ⟨pa, pn, pc⟩, ⟨wa, wn, wc⟩⟩) 28
  rw [hNW0]
  clear hNW0
  go_loopw [3, 4] (fun r i wr => ∃ k : Nat, ∃ z : Int, k ≤ an ∧ i = .int .i64 k ∧ r = .int .i64 z ∧ 1 ≤ z ∧ z ≤ 3000 ∧ Hid (z = ((l.air.take k).map Rg.size).foldl (capStep 3000) 1) ∧ Below W0.heap.size W0 wr) (fun _ i _ => an - (intOf i).toNat)
  case atStart => exact ⟨0, 1, Nat.zero_le _, rfl, rfl, by omega, by omega, by simp [Hid], Below.refl _ _⟩
  case round =>
    obtain ⟨k, z, hk, rfl, rfl, hz1, hz2, hq, hb⟩ := hrel
    have hw := below_on hW0 hb
    have c1 := (BX.lift hb).cell 1 (.slice aa an ac) rfl
    by_cases hlt : k < an
    · obtain ⟨x, hx⟩ := at_of_lt HLa.out hlt
      obtain ⟨b, o, ha, hbl, hc1, hc2⟩ := h.air.rg_at hx
      have hc1 := lift hw hc1
      have hc2 := lift hw hc2
      have HX := Lib.hid hx
      simp only at ha
      subst ha
      clear hx
      have hok := HVA.out x (List.mem_of_getElem? HX.out)
      have hsz := hok.size_pos
      unfold RgOk at hok
      have hm := mul_bounds ⟨hz1, hz2⟩ hsz
      unfold Rg.size at hsz hm
      go_wp2_with (go_at_call 136; refine (Size06_any _ _ _ (by omega) (by omega) (by omega)).mono ?_; rintro e w1 ⟨rfl, hb1⟩)
      go_roundw
      case rel =>
        refine ⟨k + 1, capStep 3000 z x.size, by omega, by go_num, rfl, (capStep_pos (by omega) hz1 (by unfold Rg.size; omega)).1, (capStep_pos (by omega) hz1 (by unfold Rg.size; omega)).2, ?_, hb.trans (hb1.mono hb.size)⟩
        have hq' : z = _ := hq
        show capStep 3000 z x.size = _
        rw [List.map_take, take_foldl _ _ (x := x.size) (by simp [HX.out]), hq', List.map_take]
      case measure => simp [intOf]; omega
    · obtain rfl : k = an := by omega
      have hq2 : Hid (z = (l.air.map Rg.size).foldl (capStep 3000) 1) := by
        have hq' : z = _ := hq
        rw [take_len HLa.out] at hq'
        exact hq'
      clear hq
      obtain ⟨W1, rfl⟩ : ∃ W1 : World, W1 = wr := ⟨_, rfl⟩
      go_wp2
      go_loopw [3, 5] (fun r i wr => ∃ j : Nat, ∃ y : Int, j ≤ cn ∧ i = .int .i64 j ∧ r = .int .i64 y ∧ 1 ≤ y ∧ y ≤ 3000 ∧ Hid (y = ((l.cakes.take j).map fun c => c.water.size).foldl (capStep 3000) z) ∧ Below W1.heap.size W1 wr) (fun _ i _ => cn - (intOf i).toNat)
      case atStart => exact ⟨0, z, Nat.zero_le _, rfl, rfl, by omega, by omega, by simp [Hid], Below.refl _ _⟩
      case round =>
        obtain ⟨j, y, hj, rfl, rfl, hy1, hy2, hq, hb3⟩ := hrel
        have hw := below_on (below_on hW0 hb) hb3
        have c3 := (BX.lift (below_on hb hb3)).cell 3 (.slice ca cn cc) rfl
        by_cases hlt : j < cn
        · obtain ⟨x, hx⟩ := at_of_lt HLc.out hlt
          obtain ⟨b, o, ha, hbl, _, hc1, hc2, _⟩ := h.cakes.cake_at hx
          have hc1 := lift hw hc1
          have hc2 := lift hw hc2
          have HX := Lib.hid hx
          simp only at ha
          subst ha
          clear hx
          have hok := HVC.out x (List.mem_of_getElem? HX.out)
          have hsz := hok.size_pos
          unfold RgOk at hok
          have hm := mul_bounds ⟨hy1, hy2⟩ hsz
          unfold Rg.size at hsz hm
          go_wp2_with (go_at_call 136; refine (Size06_any _ _ _ (by omega) (by omega) (by omega)).mono ?_; rintro e w1 ⟨rfl, hb1⟩)
          go_roundw
          case rel =>
            refine ⟨j + 1, capStep 3000 y x.water.size, by omega, by go_num, rfl, (capStep_pos (by omega) hy1 (by unfold Rg.size; omega)).1, (capStep_pos (by omega) hy1 (by unfold Rg.size; omega)).2, ?_, hb3.trans (hb1.mono hb3.size)⟩
            have hq' : y = _ := hq
            show capStep 3000 y x.water.size = _
            rw [List.map_take, take_foldl _ _ (x := x.water.size) (by simp [HX.out]), hq', List.map_take]
          case measure => simp [intOf]; omega
        · obtain rfl : j = cn := by omega
          have hq3 : Hid (y = capMul 3000 l.sizes) := by
            have hq' : y = _ := hq
            have hq'' := hq2.out
            rw [take_len HLc.out] at hq'
            show y = capMul 3000 l.sizes
            unfold capMul LoftD.sizes
            rw [List.foldl_append, ← hq'', hq']
          clear hq hq2
          go_wp2
          go_ret
          exact ⟨ret_int hq3.out, hw⟩
end Go.Proofs.YtenfnakhijobkaaGreat
namespace Go.Proofs.YtenfnakhijobkaaGreat
open Go.RowKit

theorem Has_any (s : Sl) (xs : List Int) (n : Int) (w : World) (h : RdInts w s xs) :
    Calls Tryz.prog 121 #[.slice s.a s.n s.c, .int .i64 n] w fun e w' => e = .returned (.bool (xs.any (· == n))) ∧ w = w' := by
  obtain ⟨sa, sn, sc⟩ := s
  have hs : sn ≤ 281474976710656 := by have := h.small; simp at this; omega
  have HL : Hid (xs.length = sn) := h.len
  go_enter Tryz.func121, Tryz.ntmps121
  go_wp2
  go_loopw [5] (fun i wr => ∃ k : Nat, k ≤ sn ∧ i = .int .i64 k ∧ Hid ((xs.take k).any (· == n) = false) ∧ w = wr) (fun i _ => sn - (intOf i).toNat)
  case atStart => exact ⟨0, Nat.zero_le _, rfl, by simp [Hid], rfl⟩
  case round =>
    obtain ⟨k, hk, rfl, hq, rfl⟩ := hrel
    by_cases hlt : k < sn
    · obtain ⟨x, hx⟩ := at_of_lt HL.out hlt
      obtain ⟨b, o, ha, hbl, hc⟩ := h.int_at hx
      have HX := Lib.hid hx
      simp only at ha
      subst ha
      clear hx
      by_cases hxn : x = n
      · have hb : (x == n) = true := by simp [hxn]
        have HB := Lib.hid hb
        go_wp2
        go_ret
        exact ⟨ret_bool (any_of_at (· == n) HX.out HB.out).symm, rfl⟩
      · have hb : (x == n) = false := by simp [hxn]
        have HB := Lib.hid hb
        clear hxn
        go_wp2
        go_roundw
        case rel => exact ⟨k + 1, by omega, by go_num, by
          have h1 : (xs.take k).any (· == n) = false := hq
          show (xs.take (k + 1)).any (· == n) = false
          rw [take_any _ HX.out, h1, HB.out]; rfl, trivial⟩
        case measure => simp [intOf]; omega
    · obtain rfl : sn = k := by omega
      have HD : Hid (xs.any (· == n) = false) := by
        have h1 : (xs.take sn).any (· == n) = false := hq
        rwa [take_len HL.out] at h1
      clear hq
      go_wp2
      go_ret
      exact ⟨ret_bool HD.out.symm, rfl⟩

set_option maxHeartbeats 1000000 in
theorem AreCakes_any (v : MktV) (m : MktD) (s : Sl) (xs : List Int) (w : World) (h : RdMkt w v m) (hx : RdInts w s xs) :
    Calls Tryz.prog 108 #[.agg v.cs, .slice s.a s.n s.c] w fun e w' => e = .returned (.bool (areCakes m.loft.cakes.length xs)) ∧ Below w.heap.size w w' := by
  obtain ⟨⟨vl, ⟨aa, an, ac⟩, ⟨ba, bn, bc⟩, ⟨ca, cn, cc⟩, ⟨pa, pn, pc⟩, ⟨wa, wn, wc⟩⟩, ⟨qa, qn, qc⟩, ⟨ha, hn, hc⟩, st, lt, ⟨na, nn, nc⟩⟩ := v
  obtain ⟨sa, sn, sc⟩ := s
  have hs : sn ≤ 281474976710656 := by have := hx.small; simp at this; omega
  have hcn : cn ≤ 281474976710656 := h.loft.nle.2.2.1
  have HL : Hid (xs.length = sn) := hx.len
  have HLc : Hid (m.loft.cakes.length = cn) := h.loft.cakes.len
  rw [HLc.out]
  go_enter Tryz.func108, Tryz.ntmps108
  go_wp2
  obtain ⟨W0, hNW0, BX, hW0, hzW0⟩ := Box.named w (MktV.cs ⟨⟨vl, ⟨aa, an, ac⟩, ⟨ba, bn, bc⟩, ⟨ca, cn, cc⟩, ⟨pa, pn, pc⟩, ⟨wa, wn, wc⟩⟩, ⟨qa, qn, qc⟩, ⟨ha, hn, hc⟩, st, lt, ⟨na, nn, nc⟩⟩) 33
  rw [hNW0]
  clear hNW0
  go_loopw [5] (fun i wr => ∃ k : Nat, ∃ last : Int, k ≤ sn ∧ i = .int .i64 k ∧ Hid (cakesLast cn (xs.take k) = some last) ∧ Below W0.heap.size W0 wr) (fun i _ => sn - (intOf i).toNat)
  case atStart => exact ⟨0, -1, Nat.zero_le _, rfl, by simp [Hid, cakesLast], Below.refl _ _⟩
  case round =>
    obtain ⟨k, last, hk, rfl, hq, hb⟩ := hrel
    have hw := below_on hW0 hb
    have c3 := (BX.lift hb).cell 3 (.slice ca cn cc) rfl
    by_cases hlt : k < sn
    · obtain ⟨x, hx'⟩ := at_of_lt HL.out hlt
      obtain ⟨b, o, ha', hbl, hc1⟩ := hx.int_at hx'
      have hc1 := lift hw hc1
      have HX := Lib.hid hx'
      simp only at ha'
      subst ha'
      clear hx'
      have hge := cLast_ge hq.out
      have hgeL : -1 ≤ last := hge.1
      cases hin : inB x 0 (↑cn - 1)
      · have HIN := Lib.hid hin
        have HF : Hid (areCakes cn xs = false) := by
          refine cakesLast_none (k := k + 1) ?_
          rw [cakesLast_at HX.out, hq.out]
          show (if inB x (last + 1) (cn - 1) then some x else none) = none
          rw [if_neg]
          rw [inB_iff]
          intro h2
          have : inB x 0 (cn - 1) = true := inB_iff.2 ⟨by omega, h2.2⟩
          rw [HIN.out] at this; cases this
        go_wp2
        have zz0 := fun x : After wr => At.cell c3 x
        have zz1 := fun x : After wr => At.cell hc1 x
        refine wp_region_after (by kernel_rfl) (by kernel_rfl) ?_
        repeat (go_big_quiet_step ((go_at_call 64; exact after_same (call_b (In_any _ _ _ _) hin))))
        refine wpQuiet_nil ?_
        intro W2 hbW2
        clear zz0 zz1
        go_wp2
        go_ret
        exact ⟨ret_bool HF.out.symm, below_on hw hbW2⟩
      · have HIN := Lib.hid hin
        cases k with
        | zero =>
          have hl : Hid (last = -1) := by
            have h1 := hq.out
            simp [cakesLast] at h1
            exact h1.symm
          simp only [Nat.add_zero] at hc1
          go_wp2
          have zz0 := fun x : After wr => At.cell c3 x
          have zz1 := fun x : After wr => At.cell hc1 x
          refine wp_region_after (by kernel_rfl) (by kernel_rfl) ?_
          repeat (go_big_quiet_step ((go_at_call 64; exact after_same (call_b (In_any _ _ _ _) hin))))
          refine wpQuiet_nil ?_
          intro W2 hbW2
          clear zz0 zz1
          go_wp2
          go_roundw
          case rel => exact ⟨1, x, by omega, by go_num, by
            show cakesLast cn (xs.take (0 + 1)) = some x
            rw [cakesLast_at HX.out, hq.out]
            show (if inB x (last + 1) (cn - 1) then some x else none) = some x
            rw [hl.out]; exact if_pos HIN.out, below_on hb hbW2⟩
          case measure => simp [intOf]; omega
        | succ j =>
          obtain ⟨y, hy⟩ := at_of_lt HL.out (show j < sn by omega)
          have hl : Hid (last = y) := by
            have h1 := hq.out
            have h2 := cakesLast_eq (n := cn) (l := xs) (k := j + 1) (by have := HL.out; omega) (by rw [h1]; simp)
            rw [h2] at h1
            simp [cLast, hy] at h1
            exact h1.symm
          obtain ⟨b', o', ha', hbl', hc2⟩ := hx.int_at hy
          have hc2 := lift hw hc2
          simp only [Option.some.injEq, Addr.mk.injEq, and_true] at ha'
          obtain ⟨rfl, rfl⟩ := ha'
          clear hy
          have e1 : (((j + 1 : Nat) : Int) - 1).toNat = j := by omega
          by_cases hxy : x ≤ y
          · have HXY := Lib.hid hxy
            have HF : Hid (areCakes cn xs = false) := by
              refine cakesLast_none (k := j + 1 + 1) ?_
              rw [cakesLast_at HX.out, hq.out]
              show (if inB x (last + 1) (cn - 1) then some x else none) = none
              rw [if_neg]
              rw [inB_iff, hl.out]
              have := HXY.out
              omega
            go_wp2
            have zz0 := fun x : After wr => At.cell c3 x
            have zz1 := fun x : After wr => At.cell hc1 x
            have zz2 := fun x : After wr => At.cell hc2 x
            refine wp_region_after (by kernel_rfl) (by kernel_rfl) ?_
            repeat (go_big_quiet_step ((go_at_call 64; exact after_same (call_b (In_any _ _ _ _) hin))))
            refine wpQuiet_nil ?_
            intro W2 hbW2
            clear zz0 zz1 zz2
            go_wp2
            go_ret
            exact ⟨ret_bool HF.out.symm, below_on hw hbW2⟩
          · have HXY := Lib.hid hxy
            go_wp2
            have zz0 := fun x : After wr => At.cell c3 x
            have zz1 := fun x : After wr => At.cell hc1 x
            have zz2 := fun x : After wr => At.cell hc2 x
            refine wp_region_after (by kernel_rfl) (by kernel_rfl) ?_
            repeat (go_big_quiet_step ((go_at_call 64; exact after_same (call_b (In_any _ _ _ _) hin))))
            refine wpQuiet_nil ?_
            intro W2 hbW2
            clear zz0 zz1 zz2
            go_wp2
            go_roundw
            case rel => exact ⟨j + 1 + 1, x, by omega, by go_num, by
              show cakesLast cn (xs.take (j + 1 + 1)) = some x
              rw [cakesLast_at HX.out, hq.out]
              show (if inB x (last + 1) (cn - 1) then some x else none) = some x
              have h2 := inB_iff.1 HIN.out
              have := HXY.out
              rw [if_pos (inB_iff.2 ⟨by rw [hl.out]; omega, h2.2⟩)], below_on hb hbW2⟩
            case measure => simp [intOf]; omega
    · obtain rfl : sn = k := by omega
      have HQ : Hid (areCakes cn xs = decide (0 < sn)) := by
        have h1 := hq.out
        have h3 := cLast_ge h1
        rw [take_len HL.out] at h1
        show areCakes cn xs = decide (0 < sn)
        unfold areCakes
        rw [h1]
        by_cases h4 : 0 < sn
        · have := h3.2 (by have := HL.out; omega) h4
          simp [h4, this]
        · have h5 : sn = 0 := by omega
          have h6 := HL.out
          subst h5
          have : xs = [] := List.eq_nil_of_length_eq_zero h6
          subst this
          simp [cakesLast] at h1
          subst h1; simp
      clear hq
      go_wp2
      go_ret
      exact ⟨ret_bool (by rw [HQ.out]), hw⟩
end Go.Proofs.YtenfnakhijobkaaGreat
namespace Go.Proofs.YtenfnakhijobkaaGreat
open Go.RowKit

set_option maxHeartbeats 1000000 in
theorem Many10_any (v : MktV) (m : MktD) (w : World) (h : RdMkt w v m) (hva : ∀ s ∈ m.sales, PrOk s.price) :
    Calls Tryz.prog 83 #[.agg v.cs] w fun e w' => e = .returned (.int .i64 (capMul 3000 m.sizes)) ∧ Below w.heap.size w w' := by
  have hn1 : v.sales.n ≤ 281474976710656 := by have := h.sales.small; omega
  have HLa : Hid (m.sales.length = v.sales.n) := h.sales.len
  have HVA := Lib.hid hva
  clear hva
  go_enter Tryz.func83, Tryz.ntmps83
  go_wp2
  obtain ⟨W0, hNW0, BX, hW0, hzW0⟩ := Box.named w (MktV.cs v) 33
  rw [hNW0]
  clear hNW0
  go_loopw [3, 4] (fun r i wr => ∃ k : Nat, ∃ z : Int, k ≤ v.sales.n ∧ i = .int .i64 k ∧ r = .int .i64 z ∧ 1 ≤ z ∧ z ≤ 3000 ∧ Hid (z = ((m.sales.take k).map fun s => s.price.size).foldl (capStep 3000) 1) ∧ Below W0.heap.size W0 wr) (fun _ i _ => v.sales.n - (intOf i).toNat)
  case atStart => exact ⟨0, 1, Nat.zero_le _, rfl, rfl, by omega, by omega, by simp [Hid], Below.refl _ _⟩
  case round =>
    obtain ⟨k, z, hk, rfl, rfl, hz1, hz2, hq, hb⟩ := hrel
    have hw := below_on hW0 hb
    have c1 := (BX.lift hb).cell 6 (.slice v.sales.a v.sales.n v.sales.c) rfl
    by_cases hlt : k < v.sales.n
    · obtain ⟨x, hx⟩ := at_of_lt HLa.out hlt
      obtain ⟨b, o, ha, hbl, _, hc1, hc2⟩ := h.sales.sale_at hx
      have hc1 := lift hw hc1
      have hc2 := lift hw hc2
      have HX := Lib.hid hx
      rw [ha] at c1
      clear hx
      have hok := HVA.out x (List.mem_of_getElem? HX.out)
      have hsz := hok.size_pos
      unfold PrOk at hok
      have hm1 : 1 * 1 ≤ z * x.price.size := Int.mul_le_mul hz1 hsz.1 (by omega) (by omega)
      have hm2 : z * x.price.size ≤ 3000 * 21 := Int.mul_le_mul hz2 hsz.2 (by omega) (by omega)
      unfold Rg.size at hsz hm1 hm2
      go_wp2_with (go_at_call 136; refine (Size06_any _ _ _ (by omega) (by omega) (by omega)).mono ?_; rintro e w1 ⟨rfl, hb1⟩)
      go_roundw
      case rel =>
        refine ⟨k + 1, capStep 3000 z x.price.size, by omega, by go_num, rfl, (capStep_pos (by omega) hz1 (by unfold Rg.size; omega)).1, (capStep_pos (by omega) hz1 (by unfold Rg.size; omega)).2, ?_, hb.trans (hb1.mono hb.size)⟩
        have hq' : z = _ := hq
        show capStep 3000 z x.price.size = _
        rw [List.map_take, take_foldl _ _ (x := x.price.size) (by simp [HX.out]), hq', List.map_take]
      case measure => simp [intOf]; omega
    · obtain rfl : k = v.sales.n := by omega
      have hq2 : Hid (z = capMul 3000 m.sizes) := by
        have hq' : z = _ := hq
        rw [take_len HLa.out] at hq'
        exact hq'
      clear hq
      go_wp2
      go_ret
      exact ⟨ret_int hq2.out, hw⟩

/-- Up to chest i, and in it up to chest k and cake c: no cake twice. -/
def apartTo (cs : List ChestD) (i : Nat) : Prop := ∀ j k a b, j < i → k < j → cs[j]? = some b → cs[k]? = some a → ∀ c ∈ b.cakes, c ∉ a.cakes
theorem apartTo_iff (cs : List ChestD) (n : Nat) (hn : cs.length = n) : apart cs ↔ apartTo cs n := by
  unfold apart apartTo
  rw [List.pairwise_iff_getElem]
  constructor
  · intro h j k a b hj hk hb ha
    obtain ⟨h1, rfl⟩ := List.getElem?_eq_some_iff.1 hb
    obtain ⟨h2, rfl⟩ := List.getElem?_eq_some_iff.1 ha
    exact h k j h2 h1 hk
  · intro h i j hi hj hij
    exact h j i cs[i] cs[j] (by omega) hij (List.getElem?_eq_getElem hj) (List.getElem?_eq_getElem hi)
set_option maxHeartbeats 1000000 in
theorem Apart_any (v : MktV) (m : MktD) (w : World) (h : RdMkt w v m) :
    Calls Tryz.prog 109 #[.agg v.cs] w fun e w' => e = .returned (.bool (decide (apart m.chests))) ∧ Below w.heap.size w w' := by
  have hn1 : v.chests.n ≤ 281474976710656 := by have := h.chests.small; omega
  have HLa : Hid (m.chests.length = v.chests.n) := h.chests.len
  go_enter Tryz.func109, Tryz.ntmps109
  go_wp2
  obtain ⟨W0, hNW0, BX, hW0, hzW0⟩ := Box.named w (MktV.cs v) 33
  rw [hNW0]
  clear hNW0
  go_loopw [3] (fun i wr => ∃ k : Nat, k ≤ v.chests.n ∧ i = .int .i64 k ∧ Hid (apartTo m.chests k) ∧ Below W0.heap.size W0 wr) (fun i _ => v.chests.n - (intOf i).toNat)
  case atStart => exact ⟨0, Nat.zero_le _, rfl, by show apartTo _ _; intro j k a b hj; omega, Below.refl _ _⟩
  case round =>
    obtain ⟨i, hi, rfl, hq, hb⟩ := hrel
    have c2 := (BX.lift hb).cell 7 (.slice v.chests.a v.chests.n v.chests.c) rfl
    by_cases hlt : i < v.chests.n
    · obtain ⟨y, hy⟩ := at_of_lt HLa.out hlt
      obtain ⟨b, o, ty, ha, hbl, hy1, _, hyc⟩ := h.chests.chest_at hy
      obtain ⟨tya, tyn, tyc⟩ := ty
      have HY := Lib.hid hy
      have hyn : tyn ≤ 281474976710656 := by have := hyc.small; simp at this; omega
      have HYL : Hid (y.cakes.length = tyn) := hyc.len
      clear hy
      rw [ha] at c2
      obtain ⟨W1, rfl⟩ : ∃ W1 : World, W1 = wr := ⟨_, rfl⟩
      go_wp2
      go_loopw [4] (fun j wr => ∃ k : Nat, k ≤ i ∧ j = .int .i64 k ∧ Hid (∀ q a, q < k → m.chests[q]? = some a → ∀ c ∈ y.cakes, c ∉ a.cakes) ∧ Below W0.heap.size W0 wr) (fun j _ => i - (intOf j).toNat)
      case atStart => exact ⟨0, Nat.zero_le _, rfl, by show ∀ q a, _; intro q a hq; omega, hb⟩
      case round =>
        obtain ⟨k, hk, rfl, hq2, hb2⟩ := hrel
        by_cases hlt2 : k < i
        · obtain ⟨z, hz⟩ := at_of_lt HLa.out (show k < v.chests.n by omega)
          obtain ⟨b', o', tz, ha', hbl', hz1, _, hzc⟩ := h.chests.chest_at hz
          rw [ha] at ha'
          simp only [Option.some.injEq, Addr.mk.injEq, and_true] at ha'
          obtain ⟨rfl, rfl⟩ := ha'
          have HZ := Lib.hid hz
          clear hz
          obtain ⟨W2, rfl⟩ : ∃ W2 : World, W2 = wr := ⟨_, rfl⟩
          go_wp2
          go_loopw [5] (fun j wr => ∃ c : Nat, c ≤ tyn ∧ j = .int .i64 c ∧ Hid (∀ x ∈ y.cakes.take c, x ∉ z.cakes) ∧ Below W0.heap.size W0 wr) (fun j _ => tyn - (intOf j).toNat)
          case atStart => exact ⟨0, Nat.zero_le _, rfl, by show ∀ x ∈ _, _; simp, hb2⟩
          case round =>
            obtain ⟨c, hc, rfl, hq3, hb3⟩ := hrel
            have hw := below_on hW0 hb3
            have d2 := (BX.lift hb3).cell 7 (.slice v.chests.a v.chests.n v.chests.c) rfl
            rw [ha] at d2
            have y1 := lift hw hy1
            have z1 := lift hw hz1
            by_cases hlt3 : c < tyn
            · obtain ⟨x, hx⟩ := at_of_lt HYL.out hlt3
              obtain ⟨b3, o3, ha3, hbl3, hc3⟩ := hyc.int_at hx
              have hc3 := lift hw hc3
              simp only at ha3
              subst ha3
              have HX := Lib.hid hx
              clear hx
              go_wp2
              cases hhas : z.cakes.any (· == x)
              · have zz0 := fun x : After wr => At.cell d2 x
                have zz1 := fun x : After wr => At.cell y1 x
                have zz2 := fun x : After wr => At.cell z1 x
                have zz3 := fun x : After wr => At.cell hc3 x
                refine wp_region_after (by kernel_rfl) (by kernel_rfl) ?_
                repeat (go_big_quiet_step ((go_at_call 121; exact after_same (call_b (Has_any tz z.cakes x _ ((hzc.below (encR_mono _) hw).below (encR_mono _) (At.below _))) hhas))))
                refine wpQuiet_nil ?_
                intro W3 hbW3
                clear zz0 zz1 zz2 zz3
                go_wp2
                go_roundw
                case rel => exact ⟨c + 1, by omega, by go_num, by
                  show ∀ x' ∈ _, _
                  rw [List.take_add_one, HX.out]
                  intro x' hx'
                  rcases List.mem_append.1 hx' with hx' | hx'
                  · exact hq3.out x' hx'
                  · simp at hx'; subst hx'
                    intro hm
                    rw [List.any_eq_false] at hhas
                    exact hhas _ hm (by simp), below_on hb3 hbW3⟩
                case measure => simp [intOf]; omega
              · have HNO : Hid (¬ apart m.chests) := by
                  rw [List.any_eq_true] at hhas
                  obtain ⟨x', h1, h2⟩ := hhas
                  simp at h2; subst h2
                  show ¬ _
                  rw [apartTo_iff _ _ HLa.out]
                  intro hA
                  exact hA i k z y hlt hlt2 HY.out HZ.out x' (List.mem_of_getElem? HX.out) h1
                have zz0 := fun x : After wr => At.cell d2 x
                have zz1 := fun x : After wr => At.cell y1 x
                have zz2 := fun x : After wr => At.cell z1 x
                have zz3 := fun x : After wr => At.cell hc3 x
                refine wp_region_after (by kernel_rfl) (by kernel_rfl) ?_
                repeat (go_big_quiet_step ((go_at_call 121; exact after_same (call_b (Has_any tz z.cakes x _ ((hzc.below (encR_mono _) hw).below (encR_mono _) (At.below _))) hhas))))
                refine wpQuiet_nil ?_
                intro W3 hbW3
                clear zz0 zz1 zz2 zz3
                go_wp2
                go_ret
                exact ⟨ret_bool (by simp [HNO.out]), below_on hw hbW3⟩
            · obtain rfl : c = tyn := by omega
              have HQ3 : Hid (∀ x ∈ y.cakes, x ∉ z.cakes) := by
                have := hq3.out
                rwa [take_len HYL.out] at this
              clear hq3
              go_wp2
              go_roundw
              case rel => exact ⟨k + 1, by omega, by go_num, by
                show ∀ q a, _
                intro q a hqk haq
                by_cases e : q = k
                · subst e
                  have := HZ.out
                  rw [haq] at this
                  cases this
                  exact HQ3.out
                · exact hq2.out q a (by omega) haq, hb3⟩
              case measure => simp [intOf]; omega
        · obtain rfl : k = i := by omega
          go_wp2
          go_roundw
          case rel => exact ⟨k + 1, by omega, by go_num, by
            show apartTo _ _
            intro j q a b' hj hqj hb' ha'
            by_cases e : j = k
            · subst e
              have := HY.out
              rw [hb'] at this
              cases this
              exact hq2.out q a hqj ha'
            · exact hq.out j q a b' (by omega) hqj hb' ha', hb2⟩
          case measure => simp [intOf]; omega
    · obtain rfl : i = v.chests.n := by omega
      have HD : Hid (apart m.chests) := (apartTo_iff _ _ HLa.out).2 hq.out
      clear hq
      go_wp2
      go_ret
      exact ⟨ret_bool (by simp [HD.out]), below_on hW0 hb⟩
end Go.Proofs.YtenfnakhijobkaaGreat
