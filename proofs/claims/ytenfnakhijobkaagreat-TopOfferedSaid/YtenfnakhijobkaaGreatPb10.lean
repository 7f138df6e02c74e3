/- A law's conversion of lofts. Conditions: the loft reads as it does; lists of at most 100 elements. -/
import Derived.Test.YtenfnakhijobkaaGreatPb09
set_option linter.unusedVariables false
set_option linter.unusedSimpArgs false
namespace Go.Proofs.YtenfnakhijobkaaGreat
open Go.RowKit Go.Proofs.YtenfnakhijobkaaGreatW.PrintLast
theorem info182 : (Tryz.prog.info? 182).map (fun i => (i.zero, i.size, i.bytes)) = some (some (.agg #[.int .i64 0, .int .i64 0]), 2, 16) := by kernel_rfl
theorem info186 : (Tryz.prog.info? 186).map (fun i => (i.zero, i.size, i.bytes)) = some (some (.agg #[.int .i64 0, .int .i64 0, .int .i64 0, .int .i64 0]), 4, 32) := by kernel_rfl
theorem info188 : (Tryz.prog.info? 188).map (fun i => (i.zero, i.size, i.bytes)) = some (some (.agg #[.int .i64 0, .int .i64 0, .int .i64 0, .int .i64 0]), 4, 32) := by kernel_rfl
theorem Off.gr {P : World → Prop} {B n : Nat} {w w' : World} (h : Off P (fun k => k = B ∨ k < n) w) (hg : w.grownBy w' (some B)) : Off P (fun k => k = B ∨ k < n) w' :=
  h.on hg.size (fun k hk hS => hg.block k hk (fun e => by injection e with e; exact hS (Or.inl e)))
theorem Off.fr {P : World → Prop} {B n : Nat} {w w' : World} (h : Off P (fun k => k = B ∨ k < n) w) (hs : w.heap.size ≤ w'.heap.size) (hk : ∀ k, n ≤ k → k ≠ B → k < w.heap.size → w'.heap[k]? = w.heap[k]?) : Fr P n w' := fun w2 h2 h3 =>
  h w2 (Nat.le_trans hs h2) (fun k hlt hS => by
    simp only [not_or, Nat.not_lt] at hS
    exact (h3 k hS.2 (by omega)).trans (hk k hS.2 hS.1 hlt))
theorem grown_up {w wr w3 : World} {row : Option Nat} (h : w.grownBy wr row) (k : Below wr.heap.size wr w3) : w.grownBy w3 row := grown_on h (k.mono h.size)
/-- A loft is returned, in memory of its own. -/
def RetLoft (w : World) (l : LoftD) (e : Ending) (w' : World) : Prop := ∃ v : LoftV, e = .returned (.agg v.cs) ∧ Fr (fun W => RdLoft W v l) w.heap.size w' ∧ Below w.heap.size w w'
set_option maxHeartbeats 8000000 in
set_option maxRecDepth 100000 in
theorem Loft_any (v : LoftV) (l : LoftD) (w : World) (h : RdLoft w v l) (ha : v.air.n ≤ 100) (hs : v.shelves.n ≤ 100) (hc : v.cakes.n ≤ 100) (hp : v.put.n ≤ 100) (hwt : v.weights.n ≤ 100) :
    Calls Tryz.prog 51 #[.agg v.cs] w (RetLoft w l) := by
  have HLa : Hid (l.air.length = v.air.n) := h.air.len
  have HLs : Hid (l.shelves.length = v.shelves.n) := h.shelves.len
  have HLc : Hid (l.cakes.length = v.cakes.n) := h.cakes.len
  have HLw : Hid (l.weights.length = v.weights.n) := h.weights.len
  obtain ⟨W0, hNW0, BX, hW0, hzW0⟩ := Box.named w (LoftV.cs v) 28
  obtain ⟨W1, hNW1, BR, hW1, hzW1⟩ := Box.named W0 #[.int .i64 0, .slice none 0 0, .slice none 0 0, .slice none 0 0, .slice none 0 0, .slice none 0 0] 44
  have BX1 := BX.lift hW1
  have hw1 := below_on hW0 hW1
  have c0 := BX1.cell 0 (.int .i64 v.last) rfl
  have c1 := BX1.cell 1 (.slice v.air.a v.air.n v.air.c) rfl
  have c2 := BX1.cell 2 (.slice v.shelves.a v.shelves.n v.shelves.c) rfl
  have c3 := BX1.cell 3 (.slice v.cakes.a v.cakes.n v.cakes.c) rfl
  have c4 := BX1.cell 4 (.slice v.put.a v.put.n v.put.c) rfl
  have c5 := BX1.cell 5 (.slice v.weights.a v.weights.n v.weights.c) rfl
  go_enter Tryz.func51, Tryz.ntmps51
  go_wp2
  clear hNW0 hNW1
  refine start_ (n := 8) (S := fun w' => w'.cell? ⟨w.heap.size, 0, none⟩ = some (.int .i64 v.last) ∧ w'.cell? ⟨w.heap.size, 4, none⟩ = some (.slice v.put.a v.put.n v.put.c)) (ds := [7]) #[false, false, false, false, false, false, false, false] (by kernel_rfl) rfl rfl ⟨c0, c4⟩ (fun hHeld => ?_)
  obtain ⟨s0, s1⟩ := hHeld
  refine pure_ (i := 0) (N := some 10) (v := ?_) (a' := ?_) #[true, false, false, false, false, false, false, false] rfl rfl (by kernel_rfl) (fun _ _ _ h => h) (Or.inl ⟨by rfl, ?_⟩) ?_ ?_
  rotate_left
  · intro w'
    go_simp
    with_reducible rfl
  rotate_left
  · simp only [Act.put, List.setIfInBounds_toArray, List.set_cons_zero, List.set_cons_succ, i64_w, i32_w]
    rfl
  refine pure_ (i := 2) (N := some 12) (v := ?_) (a' := ?_) #[true, false, true, false, false, false, false, false] rfl rfl (by kernel_rfl) (fun _ _ _ h => h) (Or.inl ⟨by rfl, ?_⟩) ?_ ?_
  rotate_left
  · intro w'
    go_simp
    with_reducible rfl
  rotate_left
  · simp only [Act.put, List.setIfInBounds_toArray, List.set_cons_zero, List.set_cons_succ, i64_w, i32_w]
    rfl
  refine take_ (i := 1) (N := some 11) (v := ?_) (a' := ?_) #[true, true, true, false, false, false, false, false] rfl rfl (by kernel_rfl) (fun _ _ _ h => h) (Or.inl ⟨by rfl, ?_⟩) ⟨s0, s1⟩ ?_ ?_
  rotate_left
  · rintro w' ⟨zs0, zs1⟩
    go_simp
    with_reducible rfl
  rotate_left
  · simp only [Act.put, List.setIfInBounds_toArray, List.set_cons_zero, List.set_cons_succ, i64_w, i32_w]
    rfl
  refine take_ (i := 3) (N := some 13) (v := ?_) (a' := ?_) #[true, true, true, true, false, false, false, false] rfl rfl (by kernel_rfl) (fun _ _ _ h => h) (Or.inl ⟨by rfl, ?_⟩) ⟨s0, s1⟩ ?_ ?_
  rotate_left
  · rintro w' ⟨zs0, zs1⟩
    go_simp
    with_reducible rfl
  rotate_left
  · simp only [Act.put, List.setIfInBounds_toArray, List.set_cons_zero, List.set_cons_succ, i64_w, i32_w]
    rfl
  refine join_ (σ := Sl × Nat) 1 #[true, true, true, true, true, true, true, false] (fun s => [(14, .slice s.1.a s.1.n s.1.c), (15, .agg #[.int .i64 v.last, .slice none 0 0, .slice none 0 0, .slice none 0 0, .slice s.1.a s.1.n s.1.c, .slice none 0 0]), (3, .pointer (some ⟨s.2, 0, none⟩))]) (fun s w' => (Box w' s.2 #[.int .i64 0, .slice none 0 0, .slice none 0 0, .slice none 0 0, .slice none 0 0, .slice none 0 0] 44 ∧ Off (fun W => RdInts W s.1 l.put) (fun k => k = s.2 ∨ k < W1.heap.size) w' ∧ Below W1.heap.size W1 w' ∧ W1.heap.size ≤ s.2) ∧ w'.cell? ⟨w.heap.size, 0, none⟩ = some (.int .i64 v.last) ∧ w'.cell? ⟨w.heap.size, 4, none⟩ = some (.slice v.put.a v.put.n v.put.c)) ?_ ?_
  rotate_left
  · intro hCont
    refine two_ (i := 4) (j := 6) (Ni := some 14) (Nj := some 3) #[true, true, true, true, true, false, false, false] #[true, true, true, true, false, false, true, false] rfl rfl rfl rfl (by kernel_rfl) (by decide) (by decide) (fun K hK => ?_) (fun K hK => ?_)
    · skip
      refine goes_ Tryz.func111 (by kernel_rfl) rfl #[.slice v.put.a v.put.n v.put.c] (by rfl) rfl rfl (by (try simp only [List.map_toArray, List.map_cons, List.map_nil]); first | done | rfl) ?_
      refine (list06_any v.put l.put _ (h.put.below (encR_mono _) (below_on hw1 (below_drew _))) (by omega)).mono ?_
      rintro e w1 ⟨sp, rfl, hfr, hb1⟩
      refine ⟨_, rfl, ?_⟩
      refine hK.out _ _ ⟨lift hb1 s0, lift hb1 s1⟩ (fun hHeld => ?_)
      clear hK K s0 s1
      obtain ⟨s0, s1⟩ := hHeld
      refine norm_ (a' := ?_) ?_ ?_
      rotate_left
      · show Act.put _ (some 14) _ = _
        simp only [Act.put, List.setIfInBounds_toArray, List.set_cons_zero, List.set_cons_succ, i64_w, i32_w]
        rfl
      refine pure_ (i := 5) (N := some 15) (v := ?_) (a' := ?_) #[true, true, true, true, true, true, false, false] rfl rfl (by kernel_rfl) (fun _ _ _ h => h) (Or.inl ⟨by rfl, ?_⟩) ?_ ?_
      rotate_left
      · intro w'
        go_simp
        with_reducible rfl
      rotate_left
      · simp only [Act.put, List.setIfInBounds_toArray, List.set_cons_zero, List.set_cons_succ, i64_w, i32_w]
        rfl
      refine one_ (i := 6) (N := some 3) #[true, true, true, true, true, true, true, false] rfl rfl (by kernel_rfl) (by decide) (fun K hK => ?_)
      refine value_ (w1 := ?_) (v := ?_) (by rfl) rfl ?_ ?_
      rotate_left 2
      · go_simp
        constructor
        · rfl
        · rfl
      refine hK.out _ _ ⟨lift (below_box _ _) s0, lift (below_box _ _) s1⟩ (fun hHeld => ?_)
      clear hK K s0 s1
      obtain ⟨s0, s1⟩ := hHeld
      refine norm_ (a' := ?_) ?_ ?_
      rotate_left
      · show Act.put _ (some 3) _ = _
        simp only [Act.put, List.setIfInBounds_toArray, List.set_cons_zero, List.set_cons_succ, i64_w, i32_w]
        rfl
      exact norm_ (by simp only [putAll, Act.put, List.setIfInBounds_toArray, List.set_cons_zero, List.set_cons_succ]) (hCont (sp, w1.heap.size) _ ⟨⟨Box.new _ _ _, (hfr.off (fun k hk => by have := hb1.size; have := hw1.size; simp only [World.size_drew] at *; omega)).below (below_box _ _), below_on (below_on (below_drew _) hb1) (below_box _ _), by have := hb1.size; simpa using this⟩, s0, s1⟩)
    · skip
      refine value_ (w1 := ?_) (v := ?_) (by rfl) rfl ?_ ?_
      rotate_left 2
      · go_simp
        constructor
        · rfl
        · rfl
      refine hK.out _ _ ⟨lift (below_box _ _) s0, lift (below_box _ _) s1⟩ (fun hHeld => ?_)
      clear hK K s0 s1
      obtain ⟨s0, s1⟩ := hHeld
      refine norm_ (a' := ?_) ?_ ?_
      rotate_left
      · show Act.put _ (some 3) _ = _
        simp only [Act.put, List.setIfInBounds_toArray, List.set_cons_zero, List.set_cons_succ, i64_w, i32_w]
        rfl
      refine one_ (i := 4) (N := some 14) #[true, true, true, true, true, false, true, false] rfl rfl (by kernel_rfl) (by decide) (fun K hK => ?_)
      refine goes_ Tryz.func111 (by kernel_rfl) rfl #[.slice v.put.a v.put.n v.put.c] (by rfl) rfl rfl (by (try simp only [List.map_toArray, List.map_cons, List.map_nil]); first | done | rfl) ?_
      refine (list06_any v.put l.put _ (h.put.below (encR_mono _) (below_on (below_on hw1 (below_drew _)) (below_box _ _))) (by omega)).mono ?_
      rintro e w1 ⟨sp, rfl, hfr, hb1⟩
      refine ⟨_, rfl, ?_⟩
      refine hK.out _ _ ⟨lift hb1 s0, lift hb1 s1⟩ (fun hHeld => ?_)
      clear hK K s0 s1
      obtain ⟨s0, s1⟩ := hHeld
      refine norm_ (a' := ?_) ?_ ?_
      rotate_left
      · show Act.put _ (some 14) _ = _
        simp only [Act.put, List.setIfInBounds_toArray, List.set_cons_zero, List.set_cons_succ, i64_w, i32_w]
        rfl
      refine pure_ (i := 5) (N := some 15) (v := ?_) (a' := ?_) #[true, true, true, true, true, true, true, false] rfl rfl (by kernel_rfl) (fun _ _ _ h => h) (Or.inl ⟨by rfl, ?_⟩) ?_ ?_
      rotate_left
      · intro w'
        go_simp
        with_reducible rfl
      rotate_left
      · simp only [Act.put, List.setIfInBounds_toArray, List.set_cons_zero, List.set_cons_succ, i64_w, i32_w]
        rfl
      exact norm_ (by simp only [putAll, Act.put, List.setIfInBounds_toArray, List.set_cons_zero, List.set_cons_succ]) (hCont (sp, W1.heap.size) _ ⟨⟨(Box.new W1.drew _ _).lift hb1, hfr.off (fun k hk => by have := hb1.size; have := hw1.size; simp only [World.size_drew, World.size_alloc] at *; omega), below_on (below_on (below_drew _) (below_box _ _)) hb1, by simp⟩, s0, s1⟩)
  clear s0 s1
  rintro ⟨sp, B⟩ w5 ⟨⟨BB, hop, hb5, hB⟩, s0, s1⟩
  refine norm_ (a' := ?_) ?_ ?_
  rotate_left
  · simp only [putAll, Act.put, List.setIfInBounds_toArray, List.set_cons_zero, List.set_cons_succ]
    rfl
  refine last_ (i := 7) (N := none) #[true, true, true, true, true, true, true, true] rfl rfl (by kernel_rfl) (by decide) (fun K hK => ?_)
  have kf0 := BB.free 0
  have kf1 := BB.free 1
  have kf2 := BB.free 2
  have kf3 := BB.free 3
  have kf4 := BB.free 4
  have kf5 := BB.free 5
  have kc0 := BB.cell 0 (.int .i64 0) rfl
  have kc1 := BB.cell 1 (.slice none 0 0) rfl
  have kc2 := BB.cell 2 (.slice none 0 0) rfl
  have kc3 := BB.cell 3 (.slice none 0 0) rfl
  have kc4 := BB.cell 4 (.slice none 0 0) rfl
  have kc5 := BB.cell 5 (.slice none 0 0) rfl
  refine skip_ (w1 := ?_) (by rfl) rfl ?_ ?_
  rotate_left
  · go_simp
    rfl
  refine hK.out _ _ ?_
  clear hK K
  clear s0 s1
  refine done_ (by kernel_rfl) ?_
  obtain ⟨W2, hW2⟩ : ∃ W2, ((((((w5.setCell ⟨B, 0, none⟩ (.int .i64 v.last)).setCell ⟨B, 1, none⟩ (.slice none 0 0)).setCell ⟨B, 2, none⟩ (.slice none 0 0)).setCell ⟨B, 3, none⟩ (.slice none 0 0)).setCell ⟨B, 4, none⟩ (.slice sp.a sp.n sp.c)).setCell ⟨B, 5, none⟩ (.slice none 0 0)) = W2 := ⟨_, rfl⟩
  rw [hW2]
  have BB2 : Box W2 B #[.int .i64 v.last, .slice none 0 0, .slice none 0 0, .slice none 0 0, .slice sp.a sp.n sp.c, .slice none 0 0] 44 := by
    rw [← hW2]
    exact (((((BB.set 0 _).set 1 _).set 2 _).set 3 _).set 4 _).set 5 _
  have hg25 : w5.grownBy W2 (some B) := by
    rw [← hW2]
    exact grown_set (grown_set (grown_set (grown_set (grown_set (grown_set (grown_rfl _ _) _) _) _) _) _) _
  have hsz1 := hw1.size
  have hsz0 := hW0.size
  have hsz5 := hb5.size
  have hs01 : w.heap.size < W0.heap.size := BX.lt
  have hs11 : W0.heap.size < W1.heap.size := BR.lt
  have hbB2 := BB2.lt
  have hwB : w.heap.size ≤ B := by omega
  have o4 := hop.gr hg25
  have BX2 := (BX1.lift hb5).grown hg25 (fun e => by injection e with e; omega)
  have BR2 := (BR.lift hb5).grown hg25 (fun e => by injection e with e; omega)
  have hwS2 : Below w.heap.size w W2 := (below_on hw1 hb5).grown hg25 (below_on hw1 hb5).size (fun k e => by injection e with e; omega)
  clear hg25 hW2 hop BB BX1 BR hb5 c0 c1 c2 c3 c4 c5 kf0 kf1 kf2 kf3 kf4 kf5 kc0 kc1 kc2 kc3 kc4 kc5
  go_wp2
  obtain ⟨i1, hi1, hz10, hz11, hz12⟩ := info_parts info178
  have HI := Lib.hid hi1
  have HZ0 := Lib.hid hz10
  have HZ1 := Lib.hid hz11
  have HZ2 := Lib.hid hz12
  clear hi1 hz10 hz11 hz12
  go_loopw [4] (fun i wr => ∃ q : Nat, ∃ vv : Value, q ≤ v.air.n ∧ i = .int .i64 q ∧ Box wr B #[.int .i64 v.last, vv, .slice none 0 0, .slice none 0 0, .slice sp.a sp.n sp.c, .slice none 0 0] 44 ∧ wr.ownsRow W2.heap.size 178 2 vv q ((l.air.take q).flatMap Rg.cs) ∧ W2.grownBy wr (some B)) (fun i _ => v.air.n - (intOf i).toNat)
  case atStart => exact ⟨0, _, Nat.zero_le _, rfl, BB2, by simpa using World.ownsRow_nil _ _ _ _, grown_rfl _ _⟩
  case round =>
    obtain ⟨q, vv, hq, rfl, BO, hown, hg⟩ := hrel
    have hw : Below w.heap.size w wr := hwS2.grown hg hwS2.size (fun k e => by injection e with e; omega)
    have hszr := hg.size
    have hbB1 := BO.lt
    have BL := BX2.grown hg (fun e => by injection e with e; omega)
    have c1 := BL.cell 1 (.slice v.air.a v.air.n v.air.c) rfl
    by_cases hlt : q < v.air.n
    · obtain ⟨x, hx⟩ := at_of_lt HLa.out hlt
      obtain ⟨b, o, ha, hbl, hc0, hc1⟩ := h.air.rg_at hx
      have hc0 := lift hw hc0
      have hc1 := lift hw hc1
      have HX := Lib.hid hx
      rw [ha] at c1
      clear hx ha
      have t0 := BO.cell 1 vv rfl
      have hml : q + 1 ≤ maxLen := by unfold maxLen; omega
      have HOWN := Lib.hid hown
      clear hown
      have BO9 := BO
      have hown9 := HOWN.out
      have hgA := hg
      have hwA := hw
      have a0 : vv.ownBlock ≠ some w.heap.size := own_ne HOWN.out (Or.inl (by omega))
      have aE : vv.ownBlock ≠ some b := own_ne HOWN.out (Or.inl (by omega))
      go_wp2
      have aB : vv.ownBlock ≠ some B := own_ne HOWN.out (Or.inl (by omega))
      refine start_ (n := 12) (S := fun w' => w'.cell? ⟨B, 1, none⟩ = some (vv) ∧ w'.cell? ⟨w.heap.size, 1, none⟩ = some (.slice (some ⟨b, o, none⟩) v.air.n v.air.c) ∧ w'.cell? ⟨b, o + q * 2, none⟩ = some (.int .i64 x.lo) ∧ w'.cell? ⟨b, o + q * 2 + 1, none⟩ = some (.int .i64 x.hi)) (ds := [11]) #[false, false, false, false, false, false, false, false, false, false, false, false] (by kernel_rfl) rfl rfl ⟨t0, c1, hc0, hc1⟩ (fun hHeld => ?_)
      obtain ⟨s0, s1, s2, s3⟩ := hHeld
      refine pure_ (i := 0) (N := some 23) (v := ?_) (a' := ?_) #[true, false, false, false, false, false, false, false, false, false, false, false] rfl rfl (by kernel_rfl) (fun _ _ _ h => h) (Or.inl ⟨by rfl, ?_⟩) ?_ ?_
      rotate_left
      · intro w'
        go_simp
        with_reducible rfl
      rotate_left
      · simp only [Act.put, List.setIfInBounds_toArray, List.set_cons_zero, List.set_cons_succ, i64_w, i32_w]
        rfl
      refine pure_ (i := 2) (N := some 25) (v := ?_) (a' := ?_) #[true, false, true, false, false, false, false, false, false, false, false, false] rfl rfl (by kernel_rfl) (fun _ _ _ h => h) (Or.inl ⟨by rfl, ?_⟩) ?_ ?_
      rotate_left
      · intro w'
        go_simp
        with_reducible rfl
      rotate_left
      · simp only [Act.put, List.setIfInBounds_toArray, List.set_cons_zero, List.set_cons_succ, i64_w, i32_w]
        rfl
      refine pure_ (i := 4) (N := some 27) (v := ?_) (a' := ?_) #[true, false, true, false, true, false, false, false, false, false, false, false] rfl rfl (by kernel_rfl) (fun _ _ _ h => h) (Or.inl ⟨by rfl, ?_⟩) ?_ ?_
      rotate_left
      · intro w'
        go_simp
        with_reducible rfl
      rotate_left
      · simp only [Act.put, List.setIfInBounds_toArray, List.set_cons_zero, List.set_cons_succ, i64_w, i32_w]
        rfl
      refine take_ (i := 1) (N := some 24) (v := ?_) (a' := ?_) #[true, true, true, false, true, false, false, false, false, false, false, false] rfl rfl (by kernel_rfl) (fun _ _ _ h => h) (Or.inl ⟨by rfl, ?_⟩) ⟨s0, s1, s2, s3⟩ ?_ ?_
      rotate_left
      · rintro w' ⟨zs0, zs1, zs2, zs3⟩
        go_simp
        with_reducible rfl
      rotate_left
      · simp only [Act.put, List.setIfInBounds_toArray, List.set_cons_zero, List.set_cons_succ, i64_w, i32_w]
        rfl
      refine take_ (i := 3) (N := some 26) (v := ?_) (a' := ?_) #[true, true, true, true, true, false, false, false, false, false, false, false] rfl rfl (by kernel_rfl) (fun _ _ _ h => h) (Or.inl ⟨by rfl, ?_⟩) ⟨s0, s1, s2, s3⟩ ?_ ?_
      rotate_left
      · rintro w' ⟨zs0, zs1, zs2, zs3⟩
        go_simp
        with_reducible rfl
      rotate_left
      · simp only [Act.put, List.setIfInBounds_toArray, List.set_cons_zero, List.set_cons_succ, i64_w, i32_w]
        rfl
      refine pure_ (i := 5) (N := some 28) (v := ?_) (a' := ?_) #[true, true, true, true, true, true, false, false, false, false, false, false] rfl rfl (by kernel_rfl) (fun _ _ _ h => h) (Or.inl ⟨by rfl, ?_⟩) ?_ ?_
      rotate_left
      · intro w'
        go_simp
        with_reducible rfl
      rotate_left
      · simp only [Act.put, List.setIfInBounds_toArray, List.set_cons_zero, List.set_cons_succ, i64_w, i32_w]
        rfl
      refine take_ (i := 6) (N := some 29) (v := ?_) (a' := ?_) #[true, true, true, true, true, true, true, false, false, false, false, false] rfl rfl (by kernel_rfl) (fun _ _ _ h => h) (Or.inl ⟨by rfl, ?_⟩) ⟨s0, s1, s2, s3⟩ ?_ ?_
      rotate_left
      · rintro w' ⟨zs0, zs1, zs2, zs3⟩
        go_simp
        with_reducible rfl
      rotate_left
      · simp only [Act.put, List.setIfInBounds_toArray, List.set_cons_zero, List.set_cons_succ, i64_w, i32_w]
        rfl
      refine one_ (i := 7) (N := some 30) #[true, true, true, true, true, true, true, true, false, false, false, false] rfl rfl (by kernel_rfl) (by decide) (fun K hK => ?_)
      refine goes_ Tryz.func112 (by kernel_rfl) rfl #[.agg #[.int .i64 x.lo, .int .i64 x.hi]] (by rfl) rfl rfl (by (try simp only [List.map_toArray, List.map_cons, List.map_nil]); first | done | rfl) ?_
      refine (to06_any _ _ _).mono ?_
      rintro e w1 ⟨rfl, hb1⟩
      refine ⟨_, rfl, ?_⟩
      have hownC := own_below (own_below hown9 (below_drew _)) hb1
      have hgC := grown_up (grown_up hgA (below_drew _)) hb1
      have BOC := (BO9.lift (below_drew _)).lift hb1
      have hs1 := hb1.size
      simp only [World.size_drew] at hs1
      refine hK.out _ _ ⟨lift hb1 s0, lift hb1 s1, lift hb1 s2, lift hb1 s3⟩ (fun hHeld => ?_)
      clear hK K s0 s1 s2 s3
      obtain ⟨s0, s1, s2, s3⟩ := hHeld
      refine norm_ (a' := ?_) ?_ ?_
      rotate_left
      · show Act.put _ (some 30) _ = _
        simp only [Act.put, List.setIfInBounds_toArray, List.set_cons_zero, List.set_cons_succ, i64_w, i32_w]
        rfl
      refine one_ (i := 8) (N := some 31) #[true, true, true, true, true, true, true, true, true, false, false, false] rfl rfl (by kernel_rfl) (by decide) (fun K hK => ?_)
      refine value_ (w1 := ?_) (v := ?_) (by rfl) rfl ?_ ?_
      rotate_left 2
      · go_simp
        constructor
        · rfl
        · rfl
      refine hK.out _ _ ⟨lift (below_box _ _) s0, lift (below_box _ _) s1, lift (below_box _ _) s2, lift (below_box _ _) s3⟩ (fun hHeld => ?_)
      clear hK K s0 s1 s2 s3
      obtain ⟨s0, s1, s2, s3⟩ := hHeld
      refine norm_ (a' := ?_) ?_ ?_
      rotate_left
      · show Act.put _ (some 31) _ = _
        simp only [Act.put, List.setIfInBounds_toArray, List.set_cons_zero, List.set_cons_succ, i64_w, i32_w]
        rfl
      refine one_ (i := 9) (N := some 32) #[true, true, true, true, true, true, true, true, true, true, false, false] rfl rfl (by kernel_rfl) (by decide) (fun K hK => ?_)
      refine step_append_lies _ (by rfl) _ _ _ (by rfl) W2.heap.size 178 i1 _ 2 16 Tryz.underlying39 HI.out HZ0.out HZ1.out HZ2.out rfl (by omega) vv q ((l.air.take q).flatMap Rg.cs) (by rfl) (hownC.alloc _) ⟨w1.heap.size, 0, none⟩ 1 1 [.int .i64 x.lo, .int .i64 x.hi] (by rfl) (by rfl) (World.news_of_block (cs := #[.int .i64 x.lo, .int .i64 x.hi]) (t := 178) (fr := (0, 0)) (heap_alloc_new w1 _)) (by simp [Value.oneCell']) (by omega) hml (by omega) (by simp; omega) (w1.heap.size + 1) (by simp) ?_
      intro gg cap w2 hown2 hgrow hat hlt2
      have hgD := grown_far (grown_up hgC (below_box _ _)) hgrow (fun r e => (HOWN.out.lt r e).1)
      have BOD := (BOC.lift (below_box _ _)).grown hgrow aB
      refine hK.out _ _ ⟨lift_grown hgrow s0 aB, lift_grown hgrow s1 a0, lift_grown hgrow s2 aE, lift_grown hgrow s3 aE⟩ (fun hHeld => ?_)
      clear hK K s0 s1 s2 s3
      obtain ⟨s0, s1, s2, s3⟩ := hHeld
      refine norm_ (a' := ?_) ?_ ?_
      rotate_left
      · show Act.put _ (some 32) _ = _
        simp only [Act.put, List.setIfInBounds_toArray, List.set_cons_zero, List.set_cons_succ, i64_w, i32_w]
        rfl
      refine pure_ (i := 10) (N := some 33) (v := ?_) (a' := ?_) #[true, true, true, true, true, true, true, true, true, true, true, false] rfl rfl (by kernel_rfl) (fun _ _ _ h => h) (Or.inl ⟨by rfl, ?_⟩) ?_ ?_
      rotate_left
      · intro w'
        go_simp
        with_reducible rfl
      rotate_left
      · simp only [Act.put, List.setIfInBounds_toArray, List.set_cons_zero, List.set_cons_succ, i64_w, i32_w]
        rfl
      refine last_ (i := 11) (N := none) #[true, true, true, true, true, true, true, true, true, true, true, true] rfl rfl (by kernel_rfl) (by decide) (fun K hK => ?_)
      have hst := BOD.cell 1 vv rfl
      have hsf := BOD.free 1
      refine skip_ (w1 := ?_) (by rfl) rfl ?_ ?_
      rotate_left
      · go_simp
        rfl
      refine hK.out _ _ ?_
      clear hK K
      clear s0 s1 s2 s3
      refine done_ (by kernel_rfl) ?_
      go_wp2
      go_roundw
      case measure => simp [intOf]; omega
      case rel =>
        refine ⟨q + 1, _, by omega, by go_num, BOD.set 1 _, ?_, grown_set hgD _⟩
        rw [List.take_add_one, HX.out]
        simp only [List.flatMap_append, Option.toList, List.flatMap_cons, List.flatMap_nil, List.append_nil]
        exact own_far hown2 (fun e => by
          have h1 := (hown2.lt B e).1
          omega) _
    · obtain rfl : q = v.air.n := by omega
      rw [take_len HLa.out] at hown
      obtain ⟨s1, rfl, hn1, hsb1, hfr1⟩ := own_fr (f := Rg.cs) (fun _ => rfl) HLa.out (by omega) hown
      have o1x := hfr1.off (S := fun k => k = B ∨ k < W1.heap.size) (fun k hk => by have := hwS2.size; omega)
      have o4 := o4.gr hg
      have BX1w := BL
      have BR1w := BR2.grown hg (fun e => by injection e with e; omega)
      have hwS1w := hw
      have BB1w := BO
      obtain ⟨W1w, rfl⟩ : ∃ W : World, W = wr := ⟨_, rfl⟩
      have hbBw := BB1w.lt
      clear hn1 BL BO hown hfr1 hg hw hwS2 BX2 BR2 BB2 HI HZ0 HZ1 HZ2
      go_wp2
      obtain ⟨i2, hi2, hz20, hz21, hz22⟩ := info_parts info182
      have HI := Lib.hid hi2
      have HZ0 := Lib.hid hz20
      have HZ1 := Lib.hid hz21
      have HZ2 := Lib.hid hz22
      clear hi2 hz20 hz21 hz22
      go_loopw [5] (fun i wr => ∃ q : Nat, ∃ vv : Value, q ≤ v.shelves.n ∧ i = .int .i64 q ∧ Box wr B #[.int .i64 v.last, .slice s1.a s1.n s1.c, vv, .slice none 0 0, .slice sp.a sp.n sp.c, .slice none 0 0] 44 ∧ wr.ownsRow W1w.heap.size 182 2 vv q ((l.shelves.take q).flatMap BoardD.cs) ∧ W1w.grownBy wr (some B)) (fun i _ => v.shelves.n - (intOf i).toNat)
      case atStart => exact ⟨0, _, Nat.zero_le _, rfl, BB1w, by simpa using World.ownsRow_nil _ _ _ _, grown_rfl _ _⟩
      case round =>
        obtain ⟨q, vv, hq, rfl, BO, hown, hg⟩ := hrel
        have hw : Below w.heap.size w wr := hwS1w.grown hg hwS1w.size (fun k e => by injection e with e; omega)
        have hszr := hg.size
        have hbB2 := BO.lt
        have BL := BX1w.grown hg (fun e => by injection e with e; omega)
        have c2 := BL.cell 2 (.slice v.shelves.a v.shelves.n v.shelves.c) rfl
        by_cases hlt : q < v.shelves.n
        · obtain ⟨x, hx⟩ := at_of_lt HLs.out hlt
          obtain ⟨b, o, ha, hbl, hc0, hc1⟩ := h.shelves.board_at hx
          have hc0 := lift hw hc0
          have hc1 := lift hw hc1
          have HX := Lib.hid hx
          rw [ha] at c2
          clear hx ha
          have t0 := BO.cell 2 vv rfl
          have hml : q + 1 ≤ maxLen := by unfold maxLen; omega
          have HOWN := Lib.hid hown
          clear hown
          have BO9 := BO
          have hown9 := HOWN.out
          have hgA := hg
          have hwA := hw
          have a0 : vv.ownBlock ≠ some w.heap.size := own_ne HOWN.out (Or.inl (by omega))
          have aE : vv.ownBlock ≠ some b := own_ne HOWN.out (Or.inl (by omega))
          go_wp2
          have aB : vv.ownBlock ≠ some B := own_ne HOWN.out (Or.inl (by omega))
          refine start_ (n := 19) (S := fun w' => w'.cell? ⟨B, 2, none⟩ = some (vv) ∧ w'.cell? ⟨w.heap.size, 2, none⟩ = some (.slice (some ⟨b, o, none⟩) v.shelves.n v.shelves.c) ∧ w'.cell? ⟨b, o + q * 2, none⟩ = some (.int .i64 x.room) ∧ w'.cell? ⟨b, o + q * 2 + 1, none⟩ = some (.int .i64 x.draft)) (ds := [18]) #[false, false, false, false, false, false, false, false, false, false, false, false, false, false, false, false, false, false, false] (by kernel_rfl) rfl rfl ⟨t0, c2, hc0, hc1⟩ (fun hHeld => ?_)
          obtain ⟨s0, s1, s2, s3⟩ := hHeld
          refine pure_ (i := 0) (N := some 41) (v := ?_) (a' := ?_) #[true, false, false, false, false, false, false, false, false, false, false, false, false, false, false, false, false, false, false] rfl rfl (by kernel_rfl) (fun _ _ _ h => h) (Or.inl ⟨by rfl, ?_⟩) ?_ ?_
          rotate_left
          · intro w'
            go_simp
            with_reducible rfl
          rotate_left
          · simp only [Act.put, List.setIfInBounds_toArray, List.set_cons_zero, List.set_cons_succ, i64_w, i32_w]
            rfl
          refine pure_ (i := 2) (N := some 43) (v := ?_) (a' := ?_) #[true, false, true, false, false, false, false, false, false, false, false, false, false, false, false, false, false, false, false] rfl rfl (by kernel_rfl) (fun _ _ _ h => h) (Or.inl ⟨by rfl, ?_⟩) ?_ ?_
          rotate_left
          · intro w'
            go_simp
            with_reducible rfl
          rotate_left
          · simp only [Act.put, List.setIfInBounds_toArray, List.set_cons_zero, List.set_cons_succ, i64_w, i32_w]
            rfl
          refine pure_ (i := 4) (N := some 45) (v := ?_) (a' := ?_) #[true, false, true, false, true, false, false, false, false, false, false, false, false, false, false, false, false, false, false] rfl rfl (by kernel_rfl) (fun _ _ _ h => h) (Or.inl ⟨by rfl, ?_⟩) ?_ ?_
          rotate_left
          · intro w'
            go_simp
            with_reducible rfl
          rotate_left
          · simp only [Act.put, List.setIfInBounds_toArray, List.set_cons_zero, List.set_cons_succ, i64_w, i32_w]
            rfl
          refine pure_ (i := 8) (N := some 49) (v := ?_) (a' := ?_) #[true, false, true, false, true, false, false, false, true, false, false, false, false, false, false, false, false, false, false] rfl rfl (by kernel_rfl) (fun _ _ _ h => h) (Or.inl ⟨by rfl, ?_⟩) ?_ ?_
          rotate_left
          · intro w'
            go_simp
            with_reducible rfl
          rotate_left
          · simp only [Act.put, List.setIfInBounds_toArray, List.set_cons_zero, List.set_cons_succ, i64_w, i32_w]
            rfl
          refine pure_ (i := 10) (N := some 51) (v := ?_) (a' := ?_) #[true, false, true, false, true, false, false, false, true, false, true, false, false, false, false, false, false, false, false] rfl rfl (by kernel_rfl) (fun _ _ _ h => h) (Or.inl ⟨by rfl, ?_⟩) ?_ ?_
          rotate_left
          · intro w'
            go_simp
            with_reducible rfl
          rotate_left
          · simp only [Act.put, List.setIfInBounds_toArray, List.set_cons_zero, List.set_cons_succ, i64_w, i32_w]
            rfl
          refine take_ (i := 1) (N := some 42) (v := ?_) (a' := ?_) #[true, true, true, false, true, false, false, false, true, false, true, false, false, false, false, false, false, false, false] rfl rfl (by kernel_rfl) (fun _ _ _ h => h) (Or.inl ⟨by rfl, ?_⟩) ⟨s0, s1, s2, s3⟩ ?_ ?_
          rotate_left
          · rintro w' ⟨zs0, zs1, zs2, zs3⟩
            go_simp
            with_reducible rfl
          rotate_left
          · simp only [Act.put, List.setIfInBounds_toArray, List.set_cons_zero, List.set_cons_succ, i64_w, i32_w]
            rfl
          refine take_ (i := 3) (N := some 44) (v := ?_) (a' := ?_) #[true, true, true, true, true, false, false, false, true, false, true, false, false, false, false, false, false, false, false] rfl rfl (by kernel_rfl) (fun _ _ _ h => h) (Or.inl ⟨by rfl, ?_⟩) ⟨s0, s1, s2, s3⟩ ?_ ?_
          rotate_left
          · rintro w' ⟨zs0, zs1, zs2, zs3⟩
            go_simp
            with_reducible rfl
          rotate_left
          · simp only [Act.put, List.setIfInBounds_toArray, List.set_cons_zero, List.set_cons_succ, i64_w, i32_w]
            rfl
          refine pure_ (i := 5) (N := some 46) (v := ?_) (a' := ?_) #[true, true, true, true, true, true, false, false, true, false, true, false, false, false, false, false, false, false, false] rfl rfl (by kernel_rfl) (fun _ _ _ h => h) (Or.inl ⟨by rfl, ?_⟩) ?_ ?_
          rotate_left
          · intro w'
            go_simp
            with_reducible rfl
          rotate_left
          · simp only [Act.put, List.setIfInBounds_toArray, List.set_cons_zero, List.set_cons_succ, i64_w, i32_w]
            rfl
          refine pure_ (i := 6) (N := some 47) (v := ?_) (a' := ?_) #[true, true, true, true, true, true, true, false, true, false, true, false, false, false, false, false, false, false, false] rfl rfl (by kernel_rfl) (fun _ _ _ h => h) (Or.inl ⟨by rfl, ?_⟩) ?_ ?_
          rotate_left
          · intro w'
            go_simp
            with_reducible rfl
          rotate_left
          · simp only [Act.put, List.setIfInBounds_toArray, List.set_cons_zero, List.set_cons_succ, i64_w, i32_w]
            rfl
          refine take_ (i := 7) (N := some 48) (v := ?_) (a' := ?_) #[true, true, true, true, true, true, true, true, true, false, true, false, false, false, false, false, false, false, false] rfl rfl (by kernel_rfl) (fun _ _ _ h => h) (Or.inl ⟨by rfl, ?_⟩) ⟨s0, s1, s2, s3⟩ ?_ ?_
          rotate_left
          · rintro w' ⟨zs0, zs1, zs2, zs3⟩
            go_simp
            with_reducible rfl
          rotate_left
          · simp only [Act.put, List.setIfInBounds_toArray, List.set_cons_zero, List.set_cons_succ, i64_w, i32_w]
            rfl
          refine take_ (i := 9) (N := some 50) (v := ?_) (a' := ?_) #[true, true, true, true, true, true, true, true, true, true, true, false, false, false, false, false, false, false, false] rfl rfl (by kernel_rfl) (fun _ _ _ h => h) (Or.inl ⟨by rfl, ?_⟩) ⟨s0, s1, s2, s3⟩ ?_ ?_
          rotate_left
          · rintro w' ⟨zs0, zs1, zs2, zs3⟩
            go_simp
            with_reducible rfl
          rotate_left
          · simp only [Act.put, List.setIfInBounds_toArray, List.set_cons_zero, List.set_cons_succ, i64_w, i32_w]
            rfl
          refine pure_ (i := 11) (N := some 52) (v := ?_) (a' := ?_) #[true, true, true, true, true, true, true, true, true, true, true, true, false, false, false, false, false, false, false] rfl rfl (by kernel_rfl) (fun _ _ _ h => h) (Or.inl ⟨by rfl, ?_⟩) ?_ ?_
          rotate_left
          · intro w'
            go_simp
            with_reducible rfl
          rotate_left
          · simp only [Act.put, List.setIfInBounds_toArray, List.set_cons_zero, List.set_cons_succ, i64_w, i32_w]
            rfl
          refine pure_ (i := 12) (N := some 53) (v := ?_) (a' := ?_) #[true, true, true, true, true, true, true, true, true, true, true, true, true, false, false, false, false, false, false] rfl rfl (by kernel_rfl) (fun _ _ _ h => h) (Or.inl ⟨by rfl, ?_⟩) ?_ ?_
          rotate_left
          · intro w'
            go_simp
            with_reducible rfl
          rotate_left
          · simp only [Act.put, List.setIfInBounds_toArray, List.set_cons_zero, List.set_cons_succ, i64_w, i32_w]
            rfl
          refine take_ (i := 13) (N := some 54) (v := ?_) (a' := ?_) #[true, true, true, true, true, true, true, true, true, true, true, true, true, true, false, false, false, false, false] rfl rfl (by kernel_rfl) (fun _ _ _ h => h) (Or.inl ⟨by rfl, ?_⟩) ⟨s0, s1, s2, s3⟩ ?_ ?_
          rotate_left
          · rintro w' ⟨zs0, zs1, zs2, zs3⟩
            go_simp
            with_reducible rfl
          rotate_left
          · simp only [Act.put, List.setIfInBounds_toArray, List.set_cons_zero, List.set_cons_succ, i64_w, i32_w]
            rfl
          refine pure_ (i := 14) (N := some 55) (v := ?_) (a' := ?_) #[true, true, true, true, true, true, true, true, true, true, true, true, true, true, true, false, false, false, false] rfl rfl (by kernel_rfl) (fun _ _ _ h => h) (Or.inl ⟨by rfl, ?_⟩) ?_ ?_
          rotate_left
          · intro w'
            go_simp
            with_reducible rfl
          rotate_left
          · simp only [Act.put, List.setIfInBounds_toArray, List.set_cons_zero, List.set_cons_succ, i64_w, i32_w]
            rfl
          refine one_ (i := 15) (N := some 56) #[true, true, true, true, true, true, true, true, true, true, true, true, true, true, true, true, false, false, false] rfl rfl (by kernel_rfl) (by decide) (fun K hK => ?_)
          have hownC := own_below hown9 (below_drew _)
          have hgC := grown_up hgA (below_drew _)
          have BOC := BO9.lift (below_drew _)
          have hs1 : wr.heap.size ≤ wr.drew.heap.size := Nat.le_refl _
          refine value_ (w1 := ?_) (v := ?_) (by rfl) rfl ?_ ?_
          rotate_left 2
          · go_simp
            constructor
            · rfl
            · rfl
          refine hK.out _ _ ⟨lift (below_box _ _) s0, lift (below_box _ _) s1, lift (below_box _ _) s2, lift (below_box _ _) s3⟩ (fun hHeld => ?_)
          clear hK K s0 s1 s2 s3
          obtain ⟨s0, s1, s2, s3⟩ := hHeld
          refine norm_ (a' := ?_) ?_ ?_
          rotate_left
          · show Act.put _ (some 56) _ = _
            simp only [Act.put, List.setIfInBounds_toArray, List.set_cons_zero, List.set_cons_succ, i64_w, i32_w]
            rfl
          refine one_ (i := 16) (N := some 57) #[true, true, true, true, true, true, true, true, true, true, true, true, true, true, true, true, true, false, false] rfl rfl (by kernel_rfl) (by decide) (fun K hK => ?_)
          refine step_append_lies _ (by rfl) _ _ _ (by rfl) W1w.heap.size 182 i2 _ 2 16 Tryz.underlying40 HI.out HZ0.out HZ1.out HZ2.out rfl (by omega) vv q ((l.shelves.take q).flatMap BoardD.cs) (by rfl) (hownC.alloc _) ⟨wr.drew.heap.size, 0, none⟩ 1 1 [.int .i64 x.room, .int .i64 x.draft] (by rfl) (by rfl) (World.news_of_block (cs := #[.int .i64 x.room, .int .i64 x.draft]) (t := 182) (fr := (0, 0)) (heap_alloc_new wr.drew _)) (by simp [Value.oneCell']) (by omega) hml (by omega) (by simp; omega) (wr.drew.heap.size + 1) (by simp) ?_
          intro gg cap w2 hown2 hgrow hat hlt2
          have hgD := grown_far (grown_up hgC (below_box _ _)) hgrow (fun r e => (HOWN.out.lt r e).1)
          have BOD := (BOC.lift (below_box _ _)).grown hgrow aB
          refine hK.out _ _ ⟨lift_grown hgrow s0 aB, lift_grown hgrow s1 a0, lift_grown hgrow s2 aE, lift_grown hgrow s3 aE⟩ (fun hHeld => ?_)
          clear hK K s0 s1 s2 s3
          obtain ⟨s0, s1, s2, s3⟩ := hHeld
          refine norm_ (a' := ?_) ?_ ?_
          rotate_left
          · show Act.put _ (some 57) _ = _
            simp only [Act.put, List.setIfInBounds_toArray, List.set_cons_zero, List.set_cons_succ, i64_w, i32_w]
            rfl
          refine pure_ (i := 17) (N := some 58) (v := ?_) (a' := ?_) #[true, true, true, true, true, true, true, true, true, true, true, true, true, true, true, true, true, true, false] rfl rfl (by kernel_rfl) (fun _ _ _ h => h) (Or.inl ⟨by rfl, ?_⟩) ?_ ?_
          rotate_left
          · intro w'
            go_simp
            with_reducible rfl
          rotate_left
          · simp only [Act.put, List.setIfInBounds_toArray, List.set_cons_zero, List.set_cons_succ, i64_w, i32_w]
            rfl
          refine last_ (i := 18) (N := none) #[true, true, true, true, true, true, true, true, true, true, true, true, true, true, true, true, true, true, true] rfl rfl (by kernel_rfl) (by decide) (fun K hK => ?_)
          have hst := BOD.cell 2 vv rfl
          have hsf := BOD.free 2
          refine skip_ (w1 := ?_) (by rfl) rfl ?_ ?_
          rotate_left
          · go_simp
            rfl
          refine hK.out _ _ ?_
          clear hK K
          clear s0 s1 s2 s3
          refine done_ (by kernel_rfl) ?_
          go_wp2
          go_roundw
          case measure => simp [intOf]; omega
          case rel =>
            refine ⟨q + 1, _, by omega, by go_num, BOD.set 2 _, ?_, grown_set hgD _⟩
            rw [List.take_add_one, HX.out]
            simp only [List.flatMap_append, Option.toList, List.flatMap_cons, List.flatMap_nil, List.append_nil]
            exact own_far hown2 (fun e => by
              have h1 := (hown2.lt B e).1
              omega) _
        · obtain rfl : q = v.shelves.n := by omega
          rw [take_len HLs.out] at hown
          obtain ⟨s2, rfl, hn2, hsb2, hfr2⟩ := own_fr (f := BoardD.cs) (fun _ => rfl) HLs.out (by omega) hown
          have o2x := hfr2.off (S := fun k => k = B ∨ k < W1.heap.size) (fun k hk => by have := hwS1w.size; omega)
          have o4 := o4.gr hg
          have o1x := o1x.gr hg
          have BX2w := BL
          have BR2w := BR1w.grown hg (fun e => by injection e with e; omega)
          have hwS2w := hw
          have BB2w := BO
          obtain ⟨W2w, rfl⟩ : ∃ W : World, W = wr := ⟨_, rfl⟩
          have hbBw := BB2w.lt
          clear hn2 BL BO hown hfr2 hg hw hwS1w BX1w BR1w BB1w HI HZ0 HZ1 HZ2
          go_wp2
          obtain ⟨i3, hi3, hz30, hz31, hz32⟩ := info_parts info186
          have HI := Lib.hid hi3
          have HZ0 := Lib.hid hz30
          have HZ1 := Lib.hid hz31
          have HZ2 := Lib.hid hz32
          clear hi3 hz30 hz31 hz32
          go_loopw [6] (fun i wr => ∃ q : Nat, ∃ vv : Value, q ≤ v.cakes.n ∧ i = .int .i64 q ∧ Box wr B #[.int .i64 v.last, .slice s1.a s1.n s1.c, .slice s2.a s2.n s2.c, vv, .slice sp.a sp.n sp.c, .slice none 0 0] 44 ∧ wr.ownsRow W2w.heap.size 186 4 vv q ((l.cakes.take q).flatMap CakeD.cs) ∧ W2w.grownBy wr (some B)) (fun i _ => v.cakes.n - (intOf i).toNat)
          case atStart => exact ⟨0, _, Nat.zero_le _, rfl, BB2w, by simpa using World.ownsRow_nil _ _ _ _, grown_rfl _ _⟩
          case round =>
            obtain ⟨q, vv, hq, rfl, BO, hown, hg⟩ := hrel
            have hw : Below w.heap.size w wr := hwS2w.grown hg hwS2w.size (fun k e => by injection e with e; omega)
            have hszr := hg.size
            have hbB3 := BO.lt
            have BL := BX2w.grown hg (fun e => by injection e with e; omega)
            have c3 := BL.cell 3 (.slice v.cakes.a v.cakes.n v.cakes.c) rfl
            by_cases hlt : q < v.cakes.n
            · obtain ⟨x, hx⟩ := at_of_lt HLc.out hlt
              obtain ⟨b, o, ha, hbl, hc0, hc1, hc2, hc3⟩ := h.cakes.cake_at hx
              have hc0 := lift hw hc0
              have hc1 := lift hw hc1
              have hc2 := lift hw hc2
              have hc3 := lift hw hc3
              have HX := Lib.hid hx
              rw [ha] at c3
              clear hx ha
              have t0 := BO.cell 3 vv rfl
              have hml : q + 1 ≤ maxLen := by unfold maxLen; omega
              have HOWN := Lib.hid hown
              clear hown
              obtain ⟨W9, hNW9, BX9, hW9, hzW9⟩ := Box.named wr #[.int .i64 x.come, .int .i64 x.water.lo, .int .i64 x.water.hi, .int .i64 x.keep] 184
              have e0 := BX9.cell 0 (.int .i64 x.come) rfl
              have e1 := BX9.cell 1 (.int .i64 x.water.lo) rfl
              have e2 := BX9.cell 2 (.int .i64 x.water.hi) rfl
              have e3 := BX9.cell 3 (.int .i64 x.keep) rfl
              have t9 := lift hW9 t0
              go_wp2
              clear hNW9
              have hs9 := hW9.size
              have BO9 := BO.lift hW9
              have hown9 := own_below HOWN.out hW9
              have hgA := grown_up hg hW9
              have hwA := below_on hw hW9
              have aE : vv.ownBlock ≠ some wr.heap.size := own_ne HOWN.out (Or.inr (Nat.le_refl _))
              have aB : vv.ownBlock ≠ some B := own_ne HOWN.out (Or.inl (by omega))
              refine start_ (n := 14) (S := fun w' => w'.cell? ⟨B, 3, none⟩ = some (vv) ∧ w'.cell? ⟨wr.heap.size, 0, none⟩ = some (.int .i64 x.come) ∧ w'.cell? ⟨wr.heap.size, 1, none⟩ = some (.int .i64 x.water.lo) ∧ w'.cell? ⟨wr.heap.size, 2, none⟩ = some (.int .i64 x.water.hi) ∧ w'.cell? ⟨wr.heap.size, 3, none⟩ = some (.int .i64 x.keep)) (ds := [13]) #[false, false, false, false, false, false, false, false, false, false, false, false, false, false] (by kernel_rfl) rfl rfl ⟨t9, e0, e1, e2, e3⟩ (fun hHeld => ?_)
              obtain ⟨s0, s1, s2, s3, s4⟩ := hHeld
              refine pure_ (i := 0) (N := some 71) (v := ?_) (a' := ?_) #[true, false, false, false, false, false, false, false, false, false, false, false, false, false] rfl rfl (by kernel_rfl) (fun _ _ _ h => h) (Or.inl ⟨by rfl, ?_⟩) ?_ ?_
              rotate_left
              · intro w'
                go_simp
                with_reducible rfl
              rotate_left
              · simp only [Act.put, List.setIfInBounds_toArray, List.set_cons_zero, List.set_cons_succ, i64_w, i32_w]
                rfl
              refine pure_ (i := 2) (N := some 73) (v := ?_) (a' := ?_) #[true, false, true, false, false, false, false, false, false, false, false, false, false, false] rfl rfl (by kernel_rfl) (fun _ _ _ h => h) (Or.inl ⟨by rfl, ?_⟩) ?_ ?_
              rotate_left
              · intro w'
                go_simp
                with_reducible rfl
              rotate_left
              · simp only [Act.put, List.setIfInBounds_toArray, List.set_cons_zero, List.set_cons_succ, i64_w, i32_w]
                rfl
              refine pure_ (i := 4) (N := some 75) (v := ?_) (a' := ?_) #[true, false, true, false, true, false, false, false, false, false, false, false, false, false] rfl rfl (by kernel_rfl) (fun _ _ _ h => h) (Or.inl ⟨by rfl, ?_⟩) ?_ ?_
              rotate_left
              · intro w'
                go_simp
                with_reducible rfl
              rotate_left
              · simp only [Act.put, List.setIfInBounds_toArray, List.set_cons_zero, List.set_cons_succ, i64_w, i32_w]
                rfl
              refine pure_ (i := 7) (N := some 78) (v := ?_) (a' := ?_) #[true, false, true, false, true, false, false, true, false, false, false, false, false, false] rfl rfl (by kernel_rfl) (fun _ _ _ h => h) (Or.inl ⟨by rfl, ?_⟩) ?_ ?_
              rotate_left
              · intro w'
                go_simp
                with_reducible rfl
              rotate_left
              · simp only [Act.put, List.setIfInBounds_toArray, List.set_cons_zero, List.set_cons_succ, i64_w, i32_w]
                rfl
              refine take_ (i := 1) (N := some 72) (v := ?_) (a' := ?_) #[true, true, true, false, true, false, false, true, false, false, false, false, false, false] rfl rfl (by kernel_rfl) (fun _ _ _ h => h) (Or.inl ⟨by rfl, ?_⟩) ⟨s0, s1, s2, s3, s4⟩ ?_ ?_
              rotate_left
              · rintro w' ⟨zs0, zs1, zs2, zs3, zs4⟩
                go_simp
                with_reducible rfl
              rotate_left
              · simp only [Act.put, List.setIfInBounds_toArray, List.set_cons_zero, List.set_cons_succ, i64_w, i32_w]
                rfl
              refine take_ (i := 3) (N := some 74) (v := ?_) (a' := ?_) #[true, true, true, true, true, false, false, true, false, false, false, false, false, false] rfl rfl (by kernel_rfl) (fun _ _ _ h => h) (Or.inl ⟨by rfl, ?_⟩) ⟨s0, s1, s2, s3, s4⟩ ?_ ?_
              rotate_left
              · rintro w' ⟨zs0, zs1, zs2, zs3, zs4⟩
                go_simp
                with_reducible rfl
              rotate_left
              · simp only [Act.put, List.setIfInBounds_toArray, List.set_cons_zero, List.set_cons_succ, i64_w, i32_w]
                rfl
              refine take_ (i := 5) (N := some 76) (v := ?_) (a' := ?_) #[true, true, true, true, true, true, false, true, false, false, false, false, false, false] rfl rfl (by kernel_rfl) (fun _ _ _ h => h) (Or.inl ⟨by rfl, ?_⟩) ⟨s0, s1, s2, s3, s4⟩ ?_ ?_
              rotate_left
              · rintro w' ⟨zs0, zs1, zs2, zs3, zs4⟩
                go_simp
                with_reducible rfl
              rotate_left
              · simp only [Act.put, List.setIfInBounds_toArray, List.set_cons_zero, List.set_cons_succ, i64_w, i32_w]
                rfl
              refine take_ (i := 8) (N := some 79) (v := ?_) (a' := ?_) #[true, true, true, true, true, true, false, true, true, false, false, false, false, false] rfl rfl (by kernel_rfl) (fun _ _ _ h => h) (Or.inl ⟨by rfl, ?_⟩) ⟨s0, s1, s2, s3, s4⟩ ?_ ?_
              rotate_left
              · rintro w' ⟨zs0, zs1, zs2, zs3, zs4⟩
                go_simp
                with_reducible rfl
              rotate_left
              · simp only [Act.put, List.setIfInBounds_toArray, List.set_cons_zero, List.set_cons_succ, i64_w, i32_w]
                rfl
              refine one_ (i := 6) (N := some 77) #[true, true, true, true, true, true, true, true, true, false, false, false, false, false] rfl rfl (by kernel_rfl) (by decide) (fun K hK => ?_)
              refine goes_ Tryz.func112 (by kernel_rfl) rfl #[.agg #[.int .i64 x.water.lo, .int .i64 x.water.hi]] (by rfl) rfl rfl (by (try simp only [List.map_toArray, List.map_cons, List.map_nil]); first | done | rfl) ?_
              refine (to06_any _ _ _).mono ?_
              rintro e w1 ⟨rfl, hb1⟩
              refine ⟨_, rfl, ?_⟩
              have hownC := own_below (own_below hown9 (below_drew _)) hb1
              have hgC := grown_up (grown_up hgA (below_drew _)) hb1
              have BOC := (BO9.lift (below_drew _)).lift hb1
              have hs1 := hb1.size
              simp only [World.size_drew] at hs1
              refine hK.out _ _ ⟨lift hb1 s0, lift hb1 s1, lift hb1 s2, lift hb1 s3, lift hb1 s4⟩ (fun hHeld => ?_)
              clear hK K s0 s1 s2 s3 s4
              obtain ⟨s0, s1, s2, s3, s4⟩ := hHeld
              refine norm_ (a' := ?_) ?_ ?_
              rotate_left
              · show Act.put _ (some 77) _ = _
                simp only [Act.put, List.setIfInBounds_toArray, List.set_cons_zero, List.set_cons_succ, i64_w, i32_w]
                rfl
              refine pure_ (i := 9) (N := some 80) (v := ?_) (a' := ?_) #[true, true, true, true, true, true, true, true, true, true, false, false, false, false] rfl rfl (by kernel_rfl) (fun _ _ _ h => h) (Or.inl ⟨by rfl, ?_⟩) ?_ ?_
              rotate_left
              · intro w'
                go_simp
                with_reducible rfl
              rotate_left
              · simp only [Act.put, List.setIfInBounds_toArray, List.set_cons_zero, List.set_cons_succ, i64_w, i32_w]
                rfl
              refine one_ (i := 10) (N := some 81) #[true, true, true, true, true, true, true, true, true, true, true, false, false, false] rfl rfl (by kernel_rfl) (by decide) (fun K hK => ?_)
              refine value_ (w1 := ?_) (v := ?_) (by rfl) rfl ?_ ?_
              rotate_left 2
              · go_simp
                constructor
                · rfl
                · rfl
              refine hK.out _ _ ⟨lift (below_box _ _) s0, lift (below_box _ _) s1, lift (below_box _ _) s2, lift (below_box _ _) s3, lift (below_box _ _) s4⟩ (fun hHeld => ?_)
              clear hK K s0 s1 s2 s3 s4
              obtain ⟨s0, s1, s2, s3, s4⟩ := hHeld
              refine norm_ (a' := ?_) ?_ ?_
              rotate_left
              · show Act.put _ (some 81) _ = _
                simp only [Act.put, List.setIfInBounds_toArray, List.set_cons_zero, List.set_cons_succ, i64_w, i32_w]
                rfl
              refine one_ (i := 11) (N := some 82) #[true, true, true, true, true, true, true, true, true, true, true, true, false, false] rfl rfl (by kernel_rfl) (by decide) (fun K hK => ?_)
              refine step_append_lies _ (by rfl) _ _ _ (by rfl) W2w.heap.size 186 i3 _ 4 32 Tryz.underlying41 HI.out HZ0.out HZ1.out HZ2.out rfl (by omega) vv q ((l.cakes.take q).flatMap CakeD.cs) (by rfl) (hownC.alloc _) ⟨w1.heap.size, 0, none⟩ 1 1 [.int .i64 x.come, .int .i64 x.water.lo, .int .i64 x.water.hi, .int .i64 x.keep] (by rfl) (by rfl) (World.news_of_block (cs := #[.int .i64 x.come, .int .i64 x.water.lo, .int .i64 x.water.hi, .int .i64 x.keep]) (t := 186) (fr := (0, 0)) (heap_alloc_new w1 _)) (by simp [Value.oneCell']) (by omega) hml (by omega) (by simp; omega) (w1.heap.size + 1) (by simp) ?_
              intro gg cap w2 hown2 hgrow hat hlt2
              have hgD := grown_far (grown_up hgC (below_box _ _)) hgrow (fun r e => (HOWN.out.lt r e).1)
              have BOD := (BOC.lift (below_box _ _)).grown hgrow aB
              refine hK.out _ _ ⟨lift_grown hgrow s0 aB, lift_grown hgrow s1 aE, lift_grown hgrow s2 aE, lift_grown hgrow s3 aE, lift_grown hgrow s4 aE⟩ (fun hHeld => ?_)
              clear hK K s0 s1 s2 s3 s4
              obtain ⟨s0, s1, s2, s3, s4⟩ := hHeld
              refine norm_ (a' := ?_) ?_ ?_
              rotate_left
              · show Act.put _ (some 82) _ = _
                simp only [Act.put, List.setIfInBounds_toArray, List.set_cons_zero, List.set_cons_succ, i64_w, i32_w]
                rfl
              refine pure_ (i := 12) (N := some 83) (v := ?_) (a' := ?_) #[true, true, true, true, true, true, true, true, true, true, true, true, true, false] rfl rfl (by kernel_rfl) (fun _ _ _ h => h) (Or.inl ⟨by rfl, ?_⟩) ?_ ?_
              rotate_left
              · intro w'
                go_simp
                with_reducible rfl
              rotate_left
              · simp only [Act.put, List.setIfInBounds_toArray, List.set_cons_zero, List.set_cons_succ, i64_w, i32_w]
                rfl
              refine last_ (i := 13) (N := none) #[true, true, true, true, true, true, true, true, true, true, true, true, true, true] rfl rfl (by kernel_rfl) (by decide) (fun K hK => ?_)
              have hst := BOD.cell 3 vv rfl
              have hsf := BOD.free 3
              refine skip_ (w1 := ?_) (by rfl) rfl ?_ ?_
              rotate_left
              · go_simp
                rfl
              refine hK.out _ _ ?_
              clear hK K
              clear s0 s1 s2 s3 s4
              refine done_ (by kernel_rfl) ?_
              go_wp2
              go_roundw
              case measure => simp [intOf]; omega
              case rel =>
                refine ⟨q + 1, _, by omega, by go_num, BOD.set 3 _, ?_, grown_set hgD _⟩
                rw [List.take_add_one, HX.out]
                simp only [List.flatMap_append, Option.toList, List.flatMap_cons, List.flatMap_nil, List.append_nil]
                exact own_far hown2 (fun e => by
                  have h1 := (hown2.lt B e).1
                  omega) _
            · obtain rfl : q = v.cakes.n := by omega
              rw [take_len HLc.out] at hown
              obtain ⟨s3, rfl, hn3, hsb3, hfr3⟩ := own_fr (f := CakeD.cs) (fun _ => rfl) HLc.out (by omega) hown
              have o3x := hfr3.off (S := fun k => k = B ∨ k < W1.heap.size) (fun k hk => by have := hwS2w.size; omega)
              have o4 := o4.gr hg
              have o1x := o1x.gr hg
              have o2x := o2x.gr hg
              have BX3w := BL
              have BR3w := BR2w.grown hg (fun e => by injection e with e; omega)
              have hwS3w := hw
              have BB3w := BO
              obtain ⟨W3w, rfl⟩ : ∃ W : World, W = wr := ⟨_, rfl⟩
              have hbBw := BB3w.lt
              clear hn3 BL BO hown hfr3 hg hw hwS2w BX2w BR2w BB2w HI HZ0 HZ1 HZ2
              go_wp2
              obtain ⟨i4, hi4, hz40, hz41, hz42⟩ := info_parts info188
              have HI := Lib.hid hi4
              have HZ0 := Lib.hid hz40
              have HZ1 := Lib.hid hz41
              have HZ2 := Lib.hid hz42
              clear hi4 hz40 hz41 hz42
              go_loopw [8] (fun i wr => ∃ q : Nat, ∃ vv : Value, q ≤ v.weights.n ∧ i = .int .i64 q ∧ Box wr B #[.int .i64 v.last, .slice s1.a s1.n s1.c, .slice s2.a s2.n s2.c, .slice s3.a s3.n s3.c, .slice sp.a sp.n sp.c, vv] 44 ∧ wr.ownsRow W3w.heap.size 188 4 vv q ((l.weights.take q).flatMap WeightD.cs) ∧ W3w.grownBy wr (some B)) (fun i _ => v.weights.n - (intOf i).toNat)
              case atStart => exact ⟨0, _, Nat.zero_le _, rfl, BB3w, by simpa using World.ownsRow_nil _ _ _ _, grown_rfl _ _⟩
              case round =>
                obtain ⟨q, vv, hq, rfl, BO, hown, hg⟩ := hrel
                have hw : Below w.heap.size w wr := hwS3w.grown hg hwS3w.size (fun k e => by injection e with e; omega)
                have hszr := hg.size
                have hbB4 := BO.lt
                have BL := BX3w.grown hg (fun e => by injection e with e; omega)
                have c5 := BL.cell 5 (.slice v.weights.a v.weights.n v.weights.c) rfl
                by_cases hlt : q < v.weights.n
                · obtain ⟨x, hx⟩ := at_of_lt HLw.out hlt
                  obtain ⟨b, o, ha, hbl, hc0, hc1, hc2, hc3⟩ := h.weights.weight_at hx
                  have hc0 := lift hw hc0
                  have hc1 := lift hw hc1
                  have hc2 := lift hw hc2
                  have hc3 := lift hw hc3
                  have HX := Lib.hid hx
                  rw [ha] at c5
                  clear hx ha
                  have t0 := BO.cell 5 vv rfl
                  have hml : q + 1 ≤ maxLen := by unfold maxLen; omega
                  have HOWN := Lib.hid hown
                  clear hown
                  obtain ⟨W9, hNW9, BX9, hW9, hzW9⟩ := Box.named wr #[.int .i64 x.cake, .int .i64 x.day, .int .i64 x.water.lo, .int .i64 x.water.hi] 114
                  have e0 := BX9.cell 0 (.int .i64 x.cake) rfl
                  have e1 := BX9.cell 1 (.int .i64 x.day) rfl
                  have e2 := BX9.cell 2 (.int .i64 x.water.lo) rfl
                  have e3 := BX9.cell 3 (.int .i64 x.water.hi) rfl
                  have t9 := lift hW9 t0
                  go_wp2
                  clear hNW9
                  have hs9 := hW9.size
                  have BO9 := BO.lift hW9
                  have hown9 := own_below HOWN.out hW9
                  have hgA := grown_up hg hW9
                  have hwA := below_on hw hW9
                  have aE : vv.ownBlock ≠ some wr.heap.size := own_ne HOWN.out (Or.inr (Nat.le_refl _))
                  have aB : vv.ownBlock ≠ some B := own_ne HOWN.out (Or.inl (by omega))
                  refine start_ (n := 14) (S := fun w' => w'.cell? ⟨B, 5, none⟩ = some (vv) ∧ w'.cell? ⟨wr.heap.size, 0, none⟩ = some (.int .i64 x.cake) ∧ w'.cell? ⟨wr.heap.size, 1, none⟩ = some (.int .i64 x.day) ∧ w'.cell? ⟨wr.heap.size, 2, none⟩ = some (.int .i64 x.water.lo) ∧ w'.cell? ⟨wr.heap.size, 3, none⟩ = some (.int .i64 x.water.hi)) (ds := [13]) #[false, false, false, false, false, false, false, false, false, false, false, false, false, false] (by kernel_rfl) rfl rfl ⟨t9, e0, e1, e2, e3⟩ (fun hHeld => ?_)
                  obtain ⟨s0, s1, s2, s3, s4⟩ := hHeld
                  refine pure_ (i := 0) (N := some 96) (v := ?_) (a' := ?_) #[true, false, false, false, false, false, false, false, false, false, false, false, false, false] rfl rfl (by kernel_rfl) (fun _ _ _ h => h) (Or.inl ⟨by rfl, ?_⟩) ?_ ?_
                  rotate_left
                  · intro w'
                    go_simp
                    with_reducible rfl
                  rotate_left
                  · simp only [Act.put, List.setIfInBounds_toArray, List.set_cons_zero, List.set_cons_succ, i64_w, i32_w]
                    rfl
                  refine pure_ (i := 2) (N := some 98) (v := ?_) (a' := ?_) #[true, false, true, false, false, false, false, false, false, false, false, false, false, false] rfl rfl (by kernel_rfl) (fun _ _ _ h => h) (Or.inl ⟨by rfl, ?_⟩) ?_ ?_
                  rotate_left
                  · intro w'
                    go_simp
                    with_reducible rfl
                  rotate_left
                  · simp only [Act.put, List.setIfInBounds_toArray, List.set_cons_zero, List.set_cons_succ, i64_w, i32_w]
                    rfl
                  refine pure_ (i := 4) (N := some 100) (v := ?_) (a' := ?_) #[true, false, true, false, true, false, false, false, false, false, false, false, false, false] rfl rfl (by kernel_rfl) (fun _ _ _ h => h) (Or.inl ⟨by rfl, ?_⟩) ?_ ?_
                  rotate_left
                  · intro w'
                    go_simp
                    with_reducible rfl
                  rotate_left
                  · simp only [Act.put, List.setIfInBounds_toArray, List.set_cons_zero, List.set_cons_succ, i64_w, i32_w]
                    rfl
                  refine pure_ (i := 6) (N := some 102) (v := ?_) (a' := ?_) #[true, false, true, false, true, false, true, false, false, false, false, false, false, false] rfl rfl (by kernel_rfl) (fun _ _ _ h => h) (Or.inl ⟨by rfl, ?_⟩) ?_ ?_
                  rotate_left
                  · intro w'
                    go_simp
                    with_reducible rfl
                  rotate_left
                  · simp only [Act.put, List.setIfInBounds_toArray, List.set_cons_zero, List.set_cons_succ, i64_w, i32_w]
                    rfl
                  refine take_ (i := 1) (N := some 97) (v := ?_) (a' := ?_) #[true, true, true, false, true, false, true, false, false, false, false, false, false, false] rfl rfl (by kernel_rfl) (fun _ _ _ h => h) (Or.inl ⟨by rfl, ?_⟩) ⟨s0, s1, s2, s3, s4⟩ ?_ ?_
                  rotate_left
                  · rintro w' ⟨zs0, zs1, zs2, zs3, zs4⟩
                    go_simp
                    with_reducible rfl
                  rotate_left
                  · simp only [Act.put, List.setIfInBounds_toArray, List.set_cons_zero, List.set_cons_succ, i64_w, i32_w]
                    rfl
                  refine take_ (i := 3) (N := some 99) (v := ?_) (a' := ?_) #[true, true, true, true, true, false, true, false, false, false, false, false, false, false] rfl rfl (by kernel_rfl) (fun _ _ _ h => h) (Or.inl ⟨by rfl, ?_⟩) ⟨s0, s1, s2, s3, s4⟩ ?_ ?_
                  rotate_left
                  · rintro w' ⟨zs0, zs1, zs2, zs3, zs4⟩
                    go_simp
                    with_reducible rfl
                  rotate_left
                  · simp only [Act.put, List.setIfInBounds_toArray, List.set_cons_zero, List.set_cons_succ, i64_w, i32_w]
                    rfl
                  refine take_ (i := 5) (N := some 101) (v := ?_) (a' := ?_) #[true, true, true, true, true, true, true, false, false, false, false, false, false, false] rfl rfl (by kernel_rfl) (fun _ _ _ h => h) (Or.inl ⟨by rfl, ?_⟩) ⟨s0, s1, s2, s3, s4⟩ ?_ ?_
                  rotate_left
                  · rintro w' ⟨zs0, zs1, zs2, zs3, zs4⟩
                    go_simp
                    with_reducible rfl
                  rotate_left
                  · simp only [Act.put, List.setIfInBounds_toArray, List.set_cons_zero, List.set_cons_succ, i64_w, i32_w]
                    rfl
                  refine take_ (i := 7) (N := some 103) (v := ?_) (a' := ?_) #[true, true, true, true, true, true, true, true, false, false, false, false, false, false] rfl rfl (by kernel_rfl) (fun _ _ _ h => h) (Or.inl ⟨by rfl, ?_⟩) ⟨s0, s1, s2, s3, s4⟩ ?_ ?_
                  rotate_left
                  · rintro w' ⟨zs0, zs1, zs2, zs3, zs4⟩
                    go_simp
                    with_reducible rfl
                  rotate_left
                  · simp only [Act.put, List.setIfInBounds_toArray, List.set_cons_zero, List.set_cons_succ, i64_w, i32_w]
                    rfl
                  refine one_ (i := 8) (N := some 104) #[true, true, true, true, true, true, true, true, true, false, false, false, false, false] rfl rfl (by kernel_rfl) (by decide) (fun K hK => ?_)
                  refine goes_ Tryz.func112 (by kernel_rfl) rfl #[.agg #[.int .i64 x.water.lo, .int .i64 x.water.hi]] (by rfl) rfl rfl (by (try simp only [List.map_toArray, List.map_cons, List.map_nil]); first | done | rfl) ?_
                  refine (to06_any _ _ _).mono ?_
                  rintro e w1 ⟨rfl, hb1⟩
                  refine ⟨_, rfl, ?_⟩
                  have hownC := own_below (own_below hown9 (below_drew _)) hb1
                  have hgC := grown_up (grown_up hgA (below_drew _)) hb1
                  have BOC := (BO9.lift (below_drew _)).lift hb1
                  have hs1 := hb1.size
                  simp only [World.size_drew] at hs1
                  refine hK.out _ _ ⟨lift hb1 s0, lift hb1 s1, lift hb1 s2, lift hb1 s3, lift hb1 s4⟩ (fun hHeld => ?_)
                  clear hK K s0 s1 s2 s3 s4
                  obtain ⟨s0, s1, s2, s3, s4⟩ := hHeld
                  refine norm_ (a' := ?_) ?_ ?_
                  rotate_left
                  · show Act.put _ (some 104) _ = _
                    simp only [Act.put, List.setIfInBounds_toArray, List.set_cons_zero, List.set_cons_succ, i64_w, i32_w]
                    rfl
                  refine pure_ (i := 9) (N := some 105) (v := ?_) (a' := ?_) #[true, true, true, true, true, true, true, true, true, true, false, false, false, false] rfl rfl (by kernel_rfl) (fun _ _ _ h => h) (Or.inl ⟨by rfl, ?_⟩) ?_ ?_
                  rotate_left
                  · intro w'
                    go_simp
                    with_reducible rfl
                  rotate_left
                  · simp only [Act.put, List.setIfInBounds_toArray, List.set_cons_zero, List.set_cons_succ, i64_w, i32_w]
                    rfl
                  refine one_ (i := 10) (N := some 106) #[true, true, true, true, true, true, true, true, true, true, true, false, false, false] rfl rfl (by kernel_rfl) (by decide) (fun K hK => ?_)
                  refine value_ (w1 := ?_) (v := ?_) (by rfl) rfl ?_ ?_
                  rotate_left 2
                  · go_simp
                    constructor
                    · rfl
                    · rfl
                  refine hK.out _ _ ⟨lift (below_box _ _) s0, lift (below_box _ _) s1, lift (below_box _ _) s2, lift (below_box _ _) s3, lift (below_box _ _) s4⟩ (fun hHeld => ?_)
                  clear hK K s0 s1 s2 s3 s4
                  obtain ⟨s0, s1, s2, s3, s4⟩ := hHeld
                  refine norm_ (a' := ?_) ?_ ?_
                  rotate_left
                  · show Act.put _ (some 106) _ = _
                    simp only [Act.put, List.setIfInBounds_toArray, List.set_cons_zero, List.set_cons_succ, i64_w, i32_w]
                    rfl
                  refine one_ (i := 11) (N := some 107) #[true, true, true, true, true, true, true, true, true, true, true, true, false, false] rfl rfl (by kernel_rfl) (by decide) (fun K hK => ?_)
                  refine step_append_lies _ (by rfl) _ _ _ (by rfl) W3w.heap.size 188 i4 _ 4 32 Tryz.underlying42 HI.out HZ0.out HZ1.out HZ2.out rfl (by omega) vv q ((l.weights.take q).flatMap WeightD.cs) (by rfl) (hownC.alloc _) ⟨w1.heap.size, 0, none⟩ 1 1 [.int .i64 x.cake, .int .i64 x.day, .int .i64 x.water.lo, .int .i64 x.water.hi] (by rfl) (by rfl) (World.news_of_block (cs := #[.int .i64 x.cake, .int .i64 x.day, .int .i64 x.water.lo, .int .i64 x.water.hi]) (t := 188) (fr := (0, 0)) (heap_alloc_new w1 _)) (by simp [Value.oneCell']) (by omega) hml (by omega) (by simp; omega) (w1.heap.size + 1) (by simp) ?_
                  intro gg cap w2 hown2 hgrow hat hlt2
                  have hgD := grown_far (grown_up hgC (below_box _ _)) hgrow (fun r e => (HOWN.out.lt r e).1)
                  have BOD := (BOC.lift (below_box _ _)).grown hgrow aB
                  refine hK.out _ _ ⟨lift_grown hgrow s0 aB, lift_grown hgrow s1 aE, lift_grown hgrow s2 aE, lift_grown hgrow s3 aE, lift_grown hgrow s4 aE⟩ (fun hHeld => ?_)
                  clear hK K s0 s1 s2 s3 s4
                  obtain ⟨s0, s1, s2, s3, s4⟩ := hHeld
                  refine norm_ (a' := ?_) ?_ ?_
                  rotate_left
                  · show Act.put _ (some 107) _ = _
                    simp only [Act.put, List.setIfInBounds_toArray, List.set_cons_zero, List.set_cons_succ, i64_w, i32_w]
                    rfl
                  refine pure_ (i := 12) (N := some 108) (v := ?_) (a' := ?_) #[true, true, true, true, true, true, true, true, true, true, true, true, true, false] rfl rfl (by kernel_rfl) (fun _ _ _ h => h) (Or.inl ⟨by rfl, ?_⟩) ?_ ?_
                  rotate_left
                  · intro w'
                    go_simp
                    with_reducible rfl
                  rotate_left
                  · simp only [Act.put, List.setIfInBounds_toArray, List.set_cons_zero, List.set_cons_succ, i64_w, i32_w]
                    rfl
                  refine last_ (i := 13) (N := none) #[true, true, true, true, true, true, true, true, true, true, true, true, true, true] rfl rfl (by kernel_rfl) (by decide) (fun K hK => ?_)
                  have hst := BOD.cell 5 vv rfl
                  have hsf := BOD.free 5
                  refine skip_ (w1 := ?_) (by rfl) rfl ?_ ?_
                  rotate_left
                  · go_simp
                    rfl
                  refine hK.out _ _ ?_
                  clear hK K
                  clear s0 s1 s2 s3 s4
                  refine done_ (by kernel_rfl) ?_
                  go_wp2
                  go_roundw
                  case measure => simp [intOf]; omega
                  case rel =>
                    refine ⟨q + 1, _, by omega, by go_num, BOD.set 5 _, ?_, grown_set hgD _⟩
                    rw [List.take_add_one, HX.out]
                    simp only [List.flatMap_append, Option.toList, List.flatMap_cons, List.flatMap_nil, List.append_nil]
                    exact own_far hown2 (fun e => by
                      have h1 := (hown2.lt B e).1
                      omega) _
                · obtain rfl : q = v.weights.n := by omega
                  rw [take_len HLw.out] at hown
                  obtain ⟨s4, rfl, hn4, hsb4, hfr4⟩ := own_fr (f := WeightD.cs) (fun _ => rfl) HLw.out (by omega) hown
                  have o4x := hfr4.off (S := fun k => k = B ∨ k < W1.heap.size) (fun k hk => by have := hwS3w.size; omega)
                  have o4 := o4.gr hg
                  have o1x := o1x.gr hg
                  have o2x := o2x.gr hg
                  have o3x := o3x.gr hg
                  have BX4w := BL
                  have BR4w := BR3w.grown hg (fun e => by injection e with e; omega)
                  have hwS4w := hw
                  have BB4w := BO
                  obtain ⟨W4w, rfl⟩ : ∃ W : World, W = wr := ⟨_, rfl⟩
                  have hbBw := BB4w.lt
                  clear hn4 BL BO hown hfr4 hg hw hwS3w BX3w BR3w BB3w HI HZ0 HZ1 HZ2
                  have k0 := BB4w.cell 0 (.int .i64 v.last) rfl
                  have f0 := BR4w.free 0
                  have r0 := BR4w.cell 0 (.int .i64 0) rfl
                  have k1 := BB4w.cell 1 (.slice s1.a s1.n s1.c) rfl
                  have f1 := BR4w.free 1
                  have r1 := BR4w.cell 1 (.slice none 0 0) rfl
                  have k2 := BB4w.cell 2 (.slice s2.a s2.n s2.c) rfl
                  have f2 := BR4w.free 2
                  have r2 := BR4w.cell 2 (.slice none 0 0) rfl
                  have k3 := BB4w.cell 3 (.slice s3.a s3.n s3.c) rfl
                  have f3 := BR4w.free 3
                  have r3 := BR4w.cell 3 (.slice none 0 0) rfl
                  have k4 := BB4w.cell 4 (.slice sp.a sp.n sp.c) rfl
                  have f4 := BR4w.free 4
                  have r4 := BR4w.cell 4 (.slice none 0 0) rfl
                  have k5 := BB4w.cell 5 (.slice s4.a s4.n s4.c) rfl
                  have f5 := BR4w.free 5
                  have r5 := BR4w.cell 5 (.slice none 0 0) rfl
                  go_wp2
                  have B6 := ((((((BR4w.set 0 (.int .i64 v.last)).set 1 (.slice s1.a s1.n s1.c)).set 2 (.slice s2.a s2.n s2.c)).set 3 (.slice s3.a s3.n s3.c)).set 4 (.slice sp.a sp.n sp.c)).set 5 (.slice s4.a s4.n s4.c))
                  have hgR : W4w.grownBy (((((((W4w.setCell ⟨W0.heap.size, 0, none⟩ (.int .i64 v.last)).setCell ⟨W0.heap.size, 1, none⟩ (.slice s1.a s1.n s1.c)).setCell ⟨W0.heap.size, 2, none⟩ (.slice s2.a s2.n s2.c)).setCell ⟨W0.heap.size, 3, none⟩ (.slice s3.a s3.n s3.c)).setCell ⟨W0.heap.size, 4, none⟩ (.slice sp.a sp.n sp.c)).setCell ⟨W0.heap.size, 5, none⟩ (.slice s4.a s4.n s4.c))) (some W0.heap.size) := grown_set (grown_set (grown_set (grown_set (grown_set (grown_set (grown_rfl _ _) _) _) _) _) _) _
                  have z0 := B6.cell 0 (.int .i64 v.last) rfl
                  have z1 := B6.cell 1 (.slice s1.a s1.n s1.c) rfl
                  have z2 := B6.cell 2 (.slice s2.a s2.n s2.c) rfl
                  have z3 := B6.cell 3 (.slice s3.a s3.n s3.c) rfl
                  have z4 := B6.cell 4 (.slice sp.a sp.n sp.c) rfl
                  have z5 := B6.cell 5 (.slice s4.a s4.n s4.c) rfl
                  refine bodyPost_ret (v := .agg #[.int .i64 v.last, .slice s1.a s1.n s1.c, .slice s2.a s2.n s2.c, .slice s3.a s3.n s3.c, .slice sp.a sp.n sp.c, .slice s4.a s4.n s4.c]) (by simp [results, Tryz.results51, go_sem, z0, z1, z2, z3, z4, z5]) rfl ?_
                  have hS := hwS4w.size
                  have hfr : ∀ {P : World → Prop}, Off P (fun k => k = B ∨ k < W1.heap.size) W4w → Fr P w.heap.size _ := fun ho => (ho.fr hgR.size (fun k h1 h2 h3 => hgR.block k h3 (fun e => by injection e with e; omega))).mono (by omega) (fun _ h => h)
                  refine ⟨⟨v.last, s1, s2, s3, sp, s4⟩, rfl, ?_, hwS4w.grown hgR hS (fun k e => by injection e with e; omega)⟩
                  exact fun w' h1 h2 => ⟨h.last, hfr o1x w' h1 h2, hfr o2x w' h1 h2, hfr o3x w' h1 h2, hfr o4 w' h1 h2, hfr o4x w' h1 h2⟩
end Go.Proofs.YtenfnakhijobkaaGreat
