/- The closed example of a chest that is offered. Conditions: none. What the closed example of a chest that is offered answers. Conditions: none. The closed example of a chest that is offered: it is so. Conditions: none. The first good placement that is done after a day or before. Conditions: the loft at work reads as it does. -/
import Derived.Test.YtenfnakhijobkaaGreatPb06
import Derived.Test.YtenfnakhijobkaaGreatPb08
import Derived.Test.YtenfnakhijobkaaGreatPb09
import Derived.WalkMore
import Derived.Deep.LoopGhost
set_option linter.unusedVariables false
set_option linter.unusedSimpArgs false
namespace Go.Proofs.YtenfnakhijobkaaGreat
open Go.RowKit Go.Proofs.YtenfnakhijobkaaGreatW.PrintLast
theorem rng_any (lo hi : Int) (w : World) :
    Calls Tryz.prog 147 #[.int .i64 lo, .int .i64 hi] w fun e w' => e = .returned (.agg #[.int .i64 lo, .int .i64 hi]) ∧ Below w.heap.size w w' := by
  have BX := Box.new w #[.int .i64 lo, .int .i64 hi] 178
  have z0 := BX.cell 0 (.int .i64 lo) rfl
  have z1 := BX.cell 1 (.int .i64 hi) rfl
  clear BX
  go_enter Tryz.func147, Tryz.ntmps147
  go_wp2
  refine bodyPost_ret (v := .agg #[.int .i64 lo, .int .i64 hi]) (by simp [results, Tryz.results147, go_sem, z0, z1]) rfl ?_
  exact ⟨rfl, below_box _ _⟩
def airedL (put : List Int) : LoftD := { last := 3, air := [⟨2, 3⟩, ⟨1, 1⟩, ⟨2, 4⟩, ⟨3, 3⟩], shelves := [⟨1, 2⟩, ⟨2, 0⟩], cakes := [⟨0, ⟨6, 7⟩, 3⟩, ⟨1, ⟨5, 5⟩, 3⟩], put := put, weights := [] }
theorem rd_box {α : Type} {f : α → List Value} {sz : Nat} (hf : ∀ x, (f x).length = sz) {w : World} {b T n c : Nat} {cs : Array Value} {xs : List α} (hB : Box w b cs T) (hcs : cs.toList = xs.flatMap f) (hn : xs.length = n) (hs : n * sz ≤ 281474976710656) :
    Rd (encR f) sz w ⟨some ⟨b, 0, none⟩, n, c⟩ xs := by
  refine ⟨hn, by simpa using hs, fun j x hx => ⟨b, 0, f x, rfl, hB.lt, hf x, rfl, fun k u hk => ?_⟩⟩
  rw [Nat.zero_add]
  refine hB.cell _ u ?_
  have := flat_at hf hx hk
  rw [← hcs] at this
  simpa using this
set_option maxHeartbeats 4000000 in
set_option maxRecDepth 100000 in
theorem aired_any (s : Sl) (put : List Int) (w : World) (h : RdInts w s put) :
    Calls Tryz.prog 110 #[.slice s.a s.n s.c] w fun e w' => ∃ v : LoftV, e = .returned (.agg v.cs) ∧ RdLoft w' v (airedL put) ∧ Below w.heap.size w w' := by
  obtain ⟨W0, hNW0, BR, hW0, hzW0⟩ := Box.named w #[.int .i64 0, .slice none 0 0, .slice none 0 0, .slice none 0 0, .slice none 0 0, .slice none 0 0] 44
  go_enter Tryz.func110, Tryz.ntmps110
  go_wp2_with (first | (go_at_call 147; refine (rng_any 2 3 _).mono ?_; rintro e w1 ⟨rfl, hb1⟩) | (go_at_call 147; refine (rng_any 1 1 _).mono ?_; rintro e w2 ⟨rfl, hb2⟩) | (go_at_call 147; refine (rng_any 2 4 _).mono ?_; rintro e w3 ⟨rfl, hb3⟩) | (go_at_call 147; refine (rng_any 3 3 _).mono ?_; rintro e w4 ⟨rfl, hb4⟩) | (go_at_call 147; obtain ⟨WA, hNWA, BA, hA, hzWA⟩ := Box.named w4 #[.int .i64 2, .int .i64 3, .int .i64 1, .int .i64 1, .int .i64 2, .int .i64 4, .int .i64 3, .int .i64 3] 178; rw [hNWA]; clear hNWA; obtain ⟨WB, hNWB, BB, hB, hzWB⟩ := Box.named WA #[.int .i64 1, .int .i64 2, .int .i64 2, .int .i64 0] 182; rw [hNWB]; clear hNWB; refine (rng_any 6 7 _).mono ?_; rintro e w5 ⟨rfl, hb5⟩) | (go_at_call 147; refine (rng_any 5 5 _).mono ?_; rintro e w6 ⟨rfl, hb6⟩; have hb36 := below_on (below_on (below_on (below_on (below_on (below_on (below_on hb1 hb2) hb3) hb4) hA) hB) hb5) hb6; have BR6 := BR.lift hb36; have r0 := BR6.cell 0 (.int .i64 0) rfl; have r1 := BR6.cell 1 (.slice none 0 0) rfl; have r2 := BR6.cell 2 (.slice none 0 0) rfl; have r3 := BR6.cell 3 (.slice none 0 0) rfl; have r4 := BR6.cell 4 (.slice none 0 0) rfl; have r5 := BR6.cell 5 (.slice none 0 0) rfl; have f0 := BR6.free 0; have f1 := BR6.free 1; have f2 := BR6.free 2; have f3 := BR6.free 3; have f4 := BR6.free 4; have f5 := BR6.free 5; have hlt6 := BR6.lt))
  obtain ⟨w7, hw7⟩ : ∃ w7, ((((((w6.setCell ⟨w.heap.size, 0, none⟩ (.int .i64 3)).setCell ⟨w.heap.size, 1, none⟩ (.slice (some ⟨w4.heap.size, 0, none⟩) 4 4)).setCell ⟨w.heap.size, 2, none⟩ (.slice (some ⟨w4.heap.size + 1, 0, none⟩) 2 2)).setCell ⟨w.heap.size, 3, none⟩ (.slice (some ⟨w6.heap.size, 0, none⟩) 2 2)).setCell ⟨w.heap.size, 4, none⟩ (.slice s.a s.n s.c)).setCell ⟨w.heap.size, 5, none⟩ (.slice none 0 0)) = w7 := ⟨_, rfl⟩
  rw [hw7]
  have hg7 : w6.grownBy w7 (some w.heap.size) := by
    rw [← hw7]
    exact grown_set (grown_set (grown_set (grown_set (grown_set (grown_set (grown_rfl _ _) _) _) _) _) _) _
  have hs7 : w7.heap.size = w6.heap.size := by rw [← hw7]; simp only [World.size_setCell]
  have B7 : Box w7 w.heap.size #[.int .i64 3, .slice (some ⟨w4.heap.size, 0, none⟩) 4 4, .slice (some ⟨w4.heap.size + 1, 0, none⟩) 2 2, .slice (some ⟨w6.heap.size, 0, none⟩) 2 2, .slice s.a s.n s.c, .slice none 0 0] 44 := by
    rw [← hw7]
    exact ((((((BR6.set 0 _).set 1 _).set 2 _).set 3 _).set 4 _).set 5 _)
  clear hw7 r0 r1 r2 r3 r4 r5 f0 f1 f2 f3 f4 f5
  have hz4 := hzWA.out
  have hl0 : w.heap.size < w4.heap.size := Nat.lt_of_lt_of_le BR.lt (below_on (below_on (below_on hb1 hb2) hb3) hb4).size
  have hA6 := below_on hb5 hb6
  have BA7 := ((BA.lift hB).lift hA6).grown hg7 (fun e => by injection e with e; omega)
  have BB7 := (BB.lift hA6).grown hg7 (fun e => by injection e with e; omega)
  have BC := Box.new w7 #[.int .i64 0, .int .i64 6, .int .i64 7, .int .i64 3, .int .i64 1, .int .i64 5, .int .i64 5, .int .i64 3] 186
  have hb8 := below_box w7 (.cells #[.int .i64 0, .int .i64 6, .int .i64 7, .int .i64 3, .int .i64 1, .int .i64 5, .int .i64 5, .int .i64 3] 186)
  rw [hs7] at BC
  rw [hz4] at BB7
  have hbw : Below w.heap.size w w7 := (below_on hW0 hb36).grown hg7 (below_on hW0 hb36).size (fun k e => by injection e with e; omega)
  have z0 := (B7.lift hb8).cell 0 (.int .i64 3) rfl
  have z1 := (B7.lift hb8).cell 1 (.slice (some ⟨w4.heap.size, 0, none⟩) 4 4) rfl
  have z2 := (B7.lift hb8).cell 2 (.slice (some ⟨w4.heap.size + 1, 0, none⟩) 2 2) rfl
  have z3 := (B7.lift hb8).cell 3 (.slice (some ⟨w6.heap.size, 0, none⟩) 2 2) rfl
  have z4 := (B7.lift hb8).cell 4 (.slice s.a s.n s.c) rfl
  have z5 := (B7.lift hb8).cell 5 (.slice none 0 0) rfl
  refine bodyPost_ret (v := .agg #[.int .i64 3, .slice (some ⟨w4.heap.size, 0, none⟩) 4 4, .slice (some ⟨w4.heap.size + 1, 0, none⟩) 2 2, .slice (some ⟨w6.heap.size, 0, none⟩) 2 2, .slice s.a s.n s.c, .slice none 0 0]) (by simp [results, Tryz.results110, go_sem, z0, z1, z2, z3, z4, z5]) rfl ?_
  refine ⟨⟨3, ⟨some ⟨w4.heap.size, 0, none⟩, 4, 4⟩, ⟨some ⟨w4.heap.size + 1, 0, none⟩, 2, 2⟩, ⟨some ⟨w6.heap.size, 0, none⟩, 2, 2⟩, s, ⟨none, 0, 0⟩⟩, rfl, ?_, below_on hbw hb8⟩
  refine ⟨rfl, rd_box (f := Rg.cs) (fun _ => rfl) (BA7.lift hb8) rfl rfl (by decide), rd_box (f := BoardD.cs) (fun _ => rfl) (BB7.lift hb8) rfl rfl (by decide), rd_box (f := CakeD.cs) (fun _ => rfl) BC rfl rfl (by decide), h.below (encR_mono _) (below_on hbw hb8), rd_nil0 _ _ _ _ _⟩
end Go.Proofs.YtenfnakhijobkaaGreat
namespace Go.Proofs.YtenfnakhijobkaaGreat
open Go.RowKit
def offeredM : MktD := { loft := airedL [0, 1], sales := [⟨2, ⟨0, 0⟩⟩, ⟨4, ⟨0, 0⟩⟩], chests := [⟨[0], 0⟩, ⟨[1], 0⟩], step := 0, lots := 0, notes := [] }
theorem off_day0 : dayS (airedL [0, 1]) [0, 1] 0 = (1, 0) := by kernel_rfl
theorem off_day1 : dayS (airedL [0, 1]) [0, 1] 1 = (3, 0) := by kernel_rfl
theorem off_ready0 : readyS offeredM 0 = (0, 0) := by kernel_rfl
theorem off_ready1 : readyS offeredM 1 = (1, 0) := by kernel_rfl
end Go.Proofs.YtenfnakhijobkaaGreat
namespace Go.Proofs.YtenfnakhijobkaaGreat
open Go.RowKit Go.Proofs.YtenfnakhijobkaaGreatW.PrintLast
theorem offeredM_rd {W : World} {lv : LoftV} {a : Nat} (hl : RdLoft W lv (airedL [0, 1])) (b2 : Box W a #[.int .i64 2, .int .i64 0, .int .i64 0, .int .i64 4, .int .i64 0, .int .i64 0] 149) (b3 : Box W (a + 1) #[.int .i64 0] 3) (b4 : Box W (a + 1 + 1) #[.int .i64 1] 3) (b5 : Box W (a + 1 + 1 + 1) #[.slice (some ⟨a + 1, 0, none⟩) 1 1, .int .i64 0, .slice (some ⟨a + 1 + 1, 0, none⟩) 1 1, .int .i64 0] 150) :
    RdMkt W ⟨lv, ⟨some ⟨a, 0, none⟩, 2, 2⟩, ⟨some ⟨a + 1 + 1 + 1, 0, none⟩, 2, 2⟩, 0, 0, ⟨none, 0, 0⟩⟩ offeredM := by
  refine ⟨hl, rd_box (f := SaleD.cs) (fun _ => rfl) b2 rfl rfl (by decide), ⟨rfl, by simp, fun j x hx => ?_⟩, rfl, rfl, rd_nil0 _ _ _ _ _⟩
  match j, hx with
  | 0, hx =>
    cases hx
    refine ⟨a + 1 + 1 + 1, 0, [.slice (some ⟨a + 1, 0, none⟩) 1 1, .int .i64 0], rfl, b5.lt, rfl, ⟨⟨some ⟨a + 1, 0, none⟩, 1, 1⟩, rfl, rd_box (f := fun x : Int => [.int .i64 x]) (fun _ => rfl) b3 rfl rfl (by decide)⟩, fun k u hk => ?_⟩
    match k, hk with
    | 0, hk => cases hk; exact b5.cell 0 _ rfl
    | 1, hk => cases hk; exact b5.cell 1 _ rfl
  | 1, hx =>
    cases hx
    refine ⟨a + 1 + 1 + 1, 0, [.slice (some ⟨a + 1 + 1, 0, none⟩) 1 1, .int .i64 0], rfl, b5.lt, rfl, ⟨⟨some ⟨a + 1 + 1, 0, none⟩, 1, 1⟩, rfl, rd_box (f := fun x : Int => [.int .i64 x]) (fun _ => rfl) b4 rfl rfl (by decide)⟩, fun k u hk => ?_⟩
    match k, hk with
    | 0, hk => cases hk; exact b5.cell 2 _ rfl
    | 1, hk => cases hk; exact b5.cell 3 _ rfl
theorem off_d0 (v : LoftV) (s : Sl) (w : World) (h : RdLoft w v (airedL [0, 1])) (hp : RdInts w s [0, 1]) :
    Calls Tryz.prog 52 #[.agg v.cs, .slice s.a s.n s.c, .int .i64 0] w fun e w' => e = .returned (.tuple #[.int .i64 1, .int .i64 0]) ∧ Below w.heap.size w w' := by
  have := Day_any v _ s [0, 1] 0 w h hp
  rw [off_day0] at this
  exact this
theorem off_d1 (v : LoftV) (s : Sl) (w : World) (h : RdLoft w v (airedL [0, 1])) (hp : RdInts w s [0, 1]) :
    Calls Tryz.prog 52 #[.agg v.cs, .slice s.a s.n s.c, .int .i64 1] w fun e w' => e = .returned (.tuple #[.int .i64 3, .int .i64 0]) ∧ Below w.heap.size w w' := by
  have := Day_any v _ s [0, 1] 1 w h hp
  rw [off_day1] at this
  exact this
theorem off_r0 (v : MktV) (w : World) (h : RdMkt w v offeredM) :
    Calls Tryz.prog 25 #[.agg v.cs, .int .i64 0] w fun e w' => e = .returned (.tuple #[.int .i64 0, .int .i64 0]) ∧ Below w.heap.size w w' := by
  have := Ready_any v _ 0 w h
  rw [off_ready0] at this
  exact this
theorem off_r1 (v : MktV) (w : World) (h : RdMkt w v offeredM) :
    Calls Tryz.prog 25 #[.agg v.cs, .int .i64 1] w fun e w' => e = .returned (.tuple #[.int .i64 1, .int .i64 0]) ∧ Below w.heap.size w w' := by
  have := Ready_any v _ 1 w h
  rw [off_ready1] at this
  exact this
set_option maxHeartbeats 4000000 in
set_option maxRecDepth 100000 in
theorem offered_ok (w : World) : Calls Tryz.prog 50 #[] w fun e w' => e = .returned (.bool true) ∧ Below w.heap.size w w' := by
  go_enter Tryz.func50, Tryz.ntmps50
  go_wp2_with (first | (go_at_call 110; obtain ⟨W0, hNW0, B0, hW0, hzW0⟩ := Box.named w #[.int .i64 0, .int .i64 1] 3; rw [hNW0]; clear hNW0; refine (aired_any ⟨some ⟨w.heap.size, 0, none⟩, 2, 2⟩ [0, 1] _ (rd_box (f := fun x : Int => [.int .i64 x]) (fun _ => rfl) B0 rfl rfl (by decide))).mono ?_; rintro e w1 ⟨lv, rfl, hl, hb1⟩) | (go_at_call 52; refine (off_d1 lv lv.put _ (hM.below hb7).loft (hM.below hb7).loft.put).mono ?_; rintro e w8 ⟨rfl, hb8⟩; have BA8 := BA7.lift hb8; have q0 := BA8.cell 0 (.int .i64 lv.last) rfl; have q1 := BA8.cell 1 (.slice lv.air.a lv.air.n lv.air.c) rfl; have q2 := BA8.cell 2 (.slice lv.shelves.a lv.shelves.n lv.shelves.c) rfl; have q3 := BA8.cell 3 (.slice lv.cakes.a lv.cakes.n lv.cakes.c) rfl; have q4 := BA8.cell 4 (.slice lv.put.a lv.put.n lv.put.c) rfl; have q5 := BA8.cell 5 (.slice lv.weights.a lv.weights.n lv.weights.c) rfl; have q6 := BA8.cell 6 (.slice (some ⟨w1.heap.size, 0, none⟩) 2 2) rfl; have q7 := BA8.cell 7 (.slice (some ⟨w1.heap.size + 1 + 1 + 1, 0, none⟩) 2 2) rfl; have q8 := BA8.cell 8 (.int .i64 0) rfl; have q9 := BA8.cell 9 (.int .i64 0) rfl; have q10 := BA8.cell 10 (.slice none 0 0) rfl) | (go_at_call 52; obtain ⟨W2, hNW2, BA2, h2, hzW2⟩ := Box.named w1 #[.int .i64 2, .int .i64 0, .int .i64 0, .int .i64 4, .int .i64 0, .int .i64 0] 149; rw [hNW2]; clear hNW2; obtain ⟨W3, hNW3, BA3, h3, hzW3⟩ := Box.named W2 #[.int .i64 0] 3; rw [hNW3]; clear hNW3; obtain ⟨W4, hNW4, BA4, h4, hzW4⟩ := Box.named W3 #[.int .i64 1] 3; rw [hNW4]; clear hNW4; obtain ⟨W5, hNW5, BA5, h5, hzW5⟩ := Box.named W4 #[.slice (some ⟨w1.heap.size + 1, 0, none⟩) 1 1, .int .i64 0, .slice (some ⟨w1.heap.size + 1 + 1, 0, none⟩) 1 1, .int .i64 0] 150; rw [hNW5]; clear hNW5; obtain ⟨W6, hNW6, BA6, h6, hzW6⟩ := Box.named W5 #[.int .i64 lv.last, .slice lv.air.a lv.air.n lv.air.c, .slice lv.shelves.a lv.shelves.n lv.shelves.c, .slice lv.cakes.a lv.cakes.n lv.cakes.c, .slice lv.put.a lv.put.n lv.put.c, .slice lv.weights.a lv.weights.n lv.weights.c, .slice (some ⟨w1.heap.size, 0, none⟩) 2 2, .slice (some ⟨w1.heap.size + 1 + 1 + 1, 0, none⟩) 2 2, .int .i64 0, .int .i64 0, .slice none 0 0] 49; rw [hNW6]; clear hNW6; rw [hzW2.out] at BA3; rw [hzW3.out, hzW2.out] at BA4; rw [hzW4.out, hzW3.out, hzW2.out] at BA5; rw [hzW5.out, hzW4.out, hzW3.out, hzW2.out] at BA6; have hb26 := below_on (below_on (below_on (below_on h2 h3) h4) h5) h6; have hM := offeredM_rd (hl.below hb26) (BA2.lift (below_on (below_on (below_on h3 h4) h5) h6)) (BA3.lift (below_on (below_on h4 h5) h6)) (BA4.lift (below_on h5 h6)) (BA5.lift h6); refine (off_d0 lv lv.put _ hM.loft hM.loft.put).mono ?_; rintro e w7 ⟨rfl, hb7⟩; have BA7 := BA6.lift hb7; have p0 := BA7.cell 0 (.int .i64 lv.last) rfl; have p1 := BA7.cell 1 (.slice lv.air.a lv.air.n lv.air.c) rfl; have p2 := BA7.cell 2 (.slice lv.shelves.a lv.shelves.n lv.shelves.c) rfl; have p3 := BA7.cell 3 (.slice lv.cakes.a lv.cakes.n lv.cakes.c) rfl; have p4 := BA7.cell 4 (.slice lv.put.a lv.put.n lv.put.c) rfl; have p5 := BA7.cell 5 (.slice lv.weights.a lv.weights.n lv.weights.c) rfl; have p6 := BA7.cell 6 (.slice (some ⟨w1.heap.size, 0, none⟩) 2 2) rfl; have p7 := BA7.cell 7 (.slice (some ⟨w1.heap.size + 1 + 1 + 1, 0, none⟩) 2 2) rfl; have p8 := BA7.cell 8 (.int .i64 0) rfl; have p9 := BA7.cell 9 (.int .i64 0) rfl; have p10 := BA7.cell 10 (.slice none 0 0) rfl) | (go_at_call 25; refine (off_r1 ⟨lv, ⟨some ⟨w1.heap.size, 0, none⟩, 2, 2⟩, ⟨some ⟨w1.heap.size + 1 + 1 + 1, 0, none⟩, 2, 2⟩, 0, 0, ⟨none, 0, 0⟩⟩ _ (((hM.below hb7).below hb8).below hb9)).mono ?_; rintro e wx ⟨rfl, hbx⟩) | (go_at_call 25; refine (off_r0 ⟨lv, ⟨some ⟨w1.heap.size, 0, none⟩, 2, 2⟩, ⟨some ⟨w1.heap.size + 1 + 1 + 1, 0, none⟩, 2, 2⟩, 0, 0, ⟨none, 0, 0⟩⟩ _ ((hM.below hb7).below hb8)).mono ?_; rintro e w9 ⟨rfl, hb9⟩; have BA9 := BA8.lift hb9; have r0 := BA9.cell 0 (.int .i64 lv.last) rfl; have r1 := BA9.cell 1 (.slice lv.air.a lv.air.n lv.air.c) rfl; have r2 := BA9.cell 2 (.slice lv.shelves.a lv.shelves.n lv.shelves.c) rfl; have r3 := BA9.cell 3 (.slice lv.cakes.a lv.cakes.n lv.cakes.c) rfl; have r4 := BA9.cell 4 (.slice lv.put.a lv.put.n lv.put.c) rfl; have r5 := BA9.cell 5 (.slice lv.weights.a lv.weights.n lv.weights.c) rfl; have r6 := BA9.cell 6 (.slice (some ⟨w1.heap.size, 0, none⟩) 2 2) rfl; have r7 := BA9.cell 7 (.slice (some ⟨w1.heap.size + 1 + 1 + 1, 0, none⟩) 2 2) rfl; have r8 := BA9.cell 8 (.int .i64 0) rfl; have r9 := BA9.cell 9 (.int .i64 0) rfl; have r10 := BA9.cell 10 (.slice none 0 0) rfl))
  go_ret
  exact ⟨rfl, below_on (below_on (below_on (below_on (below_on (below_on hW0 hb1) hb26) hb7) hb8) hb9) hbx⟩
end Go.Proofs.YtenfnakhijobkaaGreat
namespace Go.Proofs.YtenfnakhijobkaaGreat
open Go.RowKit Go.Proofs.YtenfnakhijobkaaGreatW.PrintLast
/-- Blocks r and Bf apart, what lay lies. -/
structure Two (r Bf : Nat) (W W' : World) : Prop where
  os : W'.os = W.os
  tape : W'.tape = W.tape
  output : W'.output = W.output
  size : W.heap.size ≤ W'.heap.size
  block : ∀ k, k < W.heap.size → k ≠ r → k ≠ Bf → W'.heap[k]? = W.heap[k]?
theorem Two.refl (r Bf : Nat) (W : World) : Two r Bf W W := ⟨rfl, rfl, rfl, Nat.le_refl _, fun _ _ _ _ => rfl⟩
theorem Two.trans {r Bf : Nat} {a b c : World} (h : Two r Bf a b) (k : Two r Bf b c) : Two r Bf a c :=
  ⟨k.os.trans h.os, k.tape.trans h.tape, k.output.trans h.output, Nat.le_trans h.size k.size, fun i h1 h2 h3 => (k.block i (Nat.lt_of_lt_of_le h1 h.size) h2 h3).trans (h.block i h1 h2 h3)⟩
theorem Two.below {r Bf : Nat} {a b : World} (h : Below a.heap.size a b) : Two r Bf a b := ⟨h.os, h.tape, h.output, h.size, fun i hi _ _ => h.block i hi⟩
theorem Two.grown {r Bf : Nat} {a b : World} {row : Option Nat} (h : a.grownBy b row) (hr : ∀ k, row = some k → k = r ∨ k = Bf ∨ a.heap.size ≤ k) : Two r Bf a b :=
  ⟨h.os, h.tape, h.output, h.size, fun i hi h1 h2 => h.block i hi (fun e => by have := hr i e.symm; omega)⟩
theorem Two.cell {r Bf : Nat} {W W' : World} (h : Two r Bf W W') {es : Array MapEntry} {clock : Nat} (hr : W.heap[r]? = some (.map es clock)) {b o : Nat} {v : Value} (hb : b ≠ Bf) (hc : W.cell? ⟨b, o, none⟩ = some v) : W'.cell? ⟨b, o, none⟩ = some v := by
  have hne : b ≠ r := fun e => by
    subst e
    unfold World.cell? at hc
    simp only [hr] at hc
    cases hc
  have := h.block b (World.block_lt_of_cell? W ⟨b, o, none⟩ hc) hne hb
  unfold World.cell? at hc ⊢
  simp only [this]
  exact hc
theorem Memo.two {W W' : World} {r Bf : Nat} {l : LoftD} {ts : List TruthD} (h : Memo W r l ts) (k : Two r Bf W W') {b o : Nat} {v : Value} (hb : b ≠ Bf) (hc : W.cell? ⟨b, o, none⟩ = some v) : W'.cell? ⟨b, o, none⟩ = some v := by
  obtain ⟨es, clock, hr, _⟩ := h.ex
  exact k.cell hr hb hc
theorem RdInts.two {W W' : World} {r Bf : Nat} {l : LoftD} {ts : List TruthD} (h : Memo W r l ts) (k : Two r Bf W W') {s : Sl} {xs : List Int} (hs : RdInts W s xs) (hne : ∀ ad, s.a = some ad → ad.block ≠ Bf) : RdInts W' s xs :=
  ⟨hs.len, hs.small, fun j x hx => by
    obtain ⟨b, o, cs, ha, hlt, hl, hr, hc⟩ := hs.cells j x hx
    exact ⟨b, o, cs, ha, Nat.lt_of_lt_of_le hlt k.size, hl, hr, fun i v hv => h.two k (hne _ ha) (hc i v hv)⟩⟩
def okS (l : LoftD) (day : Int) (p : List Int) (s : Nat) : Bool := decide (cnt p s < roomOf l s) && decide (goodDay l (lexT l) s p.length ≤ day)
def plF (l : LoftD) (day : Int) : Nat → List Int → Option (List Int)
  | 0, p => some p
  | n + 1, p => (List.range l.shelves.length).findSome? fun s => if okS l day p s then plF l day n (p ++ [(s : Int)]) else none
theorem Two.row {r Bf : Nat} {W a b : World} {row : Option Nat} (h : Two r Bf W a) (hg : a.grownBy b row) (hr : ∀ k, row = some k → W.heap.size ≤ k ∨ k = r) : Two r Bf W b :=
  ⟨hg.os.trans h.os, hg.tape.trans h.tape, hg.output.trans h.output, Nat.le_trans h.size hg.size, fun i hi h1 h2 => (hg.block i (Nat.lt_of_lt_of_le hi h.size) (fun e => by have := hr i e.symm; omega)).trans (h.block i hi h1 h2)⟩
theorem Two.on {r Bf : Nat} {W a b : World} (h : Two r Bf W a) (hb : Below a.heap.size a b) : Two r Bf W b := h.trans (Two.below hb)
theorem Wk.two {w0 W : World} {B r Bf : Nat} {v : LoftV} {l : LoftD} {sl : Sl} (h : Wk w0 B r v l sl) (k : Two r Bf w0 W) (hBf : w0.heap.size ≤ Bf) (hm : Memo W r l (lexT l)) : Wk W B r v l sl := by
  have hk : Kept w0 W := ⟨k.size, fun b o u hc => h.mem.two k (fun e => by have := World.block_lt_of_cell? w0 ⟨b, o, none⟩ hc; simp only at this; omega) hc⟩
  exact ⟨h.rd.kept hk, hk.cell _ _ _ h.c7, hm⟩
/-- What the search for further shelves leaves. -/
def PutOut (res : Option (List Int)) (r Bf : Nat) (l : LoftD) (W : World) (e : Ending) (W' : World) : Prop :=
  Memo W' r l (lexT l) ∧ Two r Bf W W' ∧ match res with
    | some q => e = .returned (.bool true) ∧ ∃ sq : Sl, Box W' Bf #[.slice sq.a sq.n sq.c] 25 ∧ RdInts W' sq q
    | none => e = .returned (.bool false) ∧ ∃ x : Sl, Box W' Bf #[.slice x.a x.n x.c] 25
/-- What the search needs in memory. -/
structure PutIn (w0 W : World) (B r Bf Bw Bd Bp : Nat) (l : LoftD) (day : Int) : Prop where
  two : Two r Bf w0 W
  mem : Memo W r l (lexT l)
  bf : ∃ x : Sl, Box W Bf #[.slice x.a x.n x.c] 25
  bw : W.cell? ⟨Bw, 0, none⟩ = some (.pointer (some ⟨B, 0, none⟩))
  bd : W.cell? ⟨Bd, 0, none⟩ = some (.int .i64 day)
  bp : W.cell? ⟨Bp, 0, none⟩ = some (.func (.func 153) #[] #[.pointer (some ⟨Bw, 0, none⟩), .pointer (some ⟨Bf, 0, none⟩), .pointer (some ⟨Bd, 0, none⟩), .pointer (some ⟨Bp, 0, none⟩)])
theorem PutIn.on {w0 W W' : World} {B r Bf Bw Bd Bp : Nat} {l : LoftD} {day : Int} (h : PutIn w0 W B r Bf Bw Bd Bp l day) (hne : Bw ≠ Bf ∧ Bd ≠ Bf ∧ Bp ≠ Bf) (k : Two r Bf W W') (hm : Memo W' r l (lexT l)) (hbf : ∃ x : Sl, Box W' Bf #[.slice x.a x.n x.c] 25) : PutIn w0 W' B r Bf Bw Bd Bp l day :=
  ⟨h.two.trans k, hm, hbf, h.mem.two k hne.1 h.bw, h.mem.two k hne.2.1 h.bd, h.mem.two k hne.2.2 h.bp⟩
set_option maxHeartbeats 4000000 in
set_option maxRecDepth 100000 in
theorem put_leaf (w0 : World) (B r Bf Bw Bd Bp : Nat) (v : LoftV) (l : LoftD) (sl : Sl) (h0 : Wk w0 B r v l sl) (hBf : w0.heap.size ≤ Bf) (day : Int) (sp : Sl) (p : List Int) (W : World) (h : PutIn w0 W B r Bf Bw Bd Bp l day) (hp : RdInts W sp p) (hl : p.length = l.cakes.length)
    (hpf : ∀ ad, sp.a = some ad → ad.block ≠ Bf) :
    Calls Tryz.prog 153 #[.slice sp.a sp.n sp.c, .pointer (some ⟨Bw, 0, none⟩), .pointer (some ⟨Bf, 0, none⟩), .pointer (some ⟨Bd, 0, none⟩), .pointer (some ⟨Bp, 0, none⟩)] W (PutOut (some p) r Bf l W) := by
  obtain ⟨x, hbf⟩ := h.bf
  have hwk := h0.two h.two hBf h.mem
  have f0 := hbf.cell 0 (.slice x.a x.n x.c) rfl
  have f1 := hbf.free 0
  have e1 := h.bw
  have c3 := hwk.rd.cells 3 (.slice v.cakes.a v.cakes.n v.cakes.c) rfl
  have hn : sp.n = v.cakes.n := by have := hp.len; have := hwk.rd.loft.cakes.len; omega
  have hTwo : Two r Bf W (W.setCell ⟨Bf, 0, none⟩ (.slice sp.a sp.n sp.c)) := Two.grown (grown_set (grown_rfl W _) _) (fun k e => by cases e; omega)
  have hrd := hp.two h.mem hTwo hpf
  have hbx := hbf.set 0 (.slice sp.a sp.n sp.c)
  have hm1 : Memo (W.setCell ⟨Bf, 0, none⟩ (.slice sp.a sp.n sp.c)) r l (lexT l) := by
    obtain ⟨es, clock, hr, he⟩ := h.mem.ex
    refine ⟨es, clock, (heap_setCell_other W ⟨Bf, 0, none⟩ r _ (fun e => ?_)).trans hr, he⟩
    have := hbf.at_
    simp only at e
    rw [← e, hr] at this
    cases this
  obtain ⟨sa, sn, sc⟩ := sp
  simp only at hn
  subst hn
  have HT := Lib.hid hTwo
  have HR := Lib.hid hrd
  have HB := Lib.hid hbx
  have HM := Lib.hid hm1
  clear hTwo hrd hbx hm1 hp hl
  go_enter Tryz.func153, Tryz.ntmps153
  go_wp2
  go_step3
  go_wp2
  try rw [Exit.noGoto_ret]
  go_ret
  exact ⟨HM.out, HT.out, rfl, ⟨sa, v.cakes.n, sc⟩, HB.out, HR.out⟩
def brF (l : LoftD) (day : Int) (n : Nat) (p : List Int) (s : Nat) : Option (List Int) := if okS l day p s then plF l day n (p ++ [(s : Int)]) else none
theorem brF_none {l : LoftD} {day : Int} {n : Nat} {p : List Int} {s : Nat} (h : ¬ cnt p s < roomOf l s ∨ ¬ goodDay l (lexT l) s p.length ≤ day) : brF l day n p s = none := by
  unfold brF okS
  rcases h with h | h <;> simp [h]
theorem brF_eq {l : LoftD} {day : Int} {n : Nat} {p : List Int} {s : Nat} (h1 : cnt p s < roomOf l s) (h2 : goodDay l (lexT l) s p.length ≤ day) : brF l day n p s = plF l day n (p ++ [(s : Int)]) := by
  unfold brF okS
  simp [h1, h2]
theorem findSome_none {α : Type} {n : Nat} {f : Nat → Option α} (h : ∀ i, i < n → f i = none) : (List.range n).findSome? f = none := by
  rw [List.findSome?_eq_none_iff]
  intro i hi
  exact h i (List.mem_range.1 hi)
theorem findSome_some {α : Type} {n i : Nat} {f : Nat → Option α} {x : α} (hi : i < n) (hx : f i = some x) (h : ∀ j, j < i → f j = none) : (List.range n).findSome? f = some x := by
  induction n with
  | zero => omega
  | succ n ih =>
    rw [List.range_succ, List.findSome?_append]
    by_cases e : i < n
    · rw [ih e]; rfl
    · obtain rfl : i = n := by omega
      rw [findSome_none h]
      simp [hx]
theorem cnt_take_le (xs : List Int) (j : Nat) (s : Int) : cnt (xs.take j) s ≤ cnt xs s := by
  unfold cnt
  have := (List.take_sublist j xs).filter (fun z => z == s)
  have := this.length_le
  omega
theorem Memo.grown {w w' : World} {r : Nat} {l : LoftD} {ts : List TruthD} {row : Option Nat} (h : Memo w r l ts) (hg : w.grownBy w' row) (hne : row ≠ some r) : Memo w' r l ts := by
  obtain ⟨es, clock, hr, he⟩ := h.ex
  exact ⟨es, clock, (hg.block r (Array.getElem?_eq_some_iff.1 hr).1 (fun e => hne e.symm)).trans hr, he⟩
theorem wanted_ {c : Bool} {p q : Prop} (hc : c = true) (h : p) : if c = true then p else q := by rw [if_pos hc]; exact h
theorem own_base {w : World} {base base' : Nat} {e : TypeId} {size n : Nat} {v : Value} {xs : List Value} (h : w.ownsRow base e size v n xs) (hb : base' ≤ base) : w.ownsRow base' e size v n xs := by
  obtain ⟨h1, h2⟩ := h
  refine ⟨h1, ?_⟩
  rcases h2 with h2 | ⟨g, cap, cur, hv, hg, hh, r⟩
  · exact Or.inl h2
  · exact Or.inr ⟨g, cap, cur, hv, Nat.le_trans hb hg, hh, r⟩
set_option maxHeartbeats 8000000 in
set_option maxRecDepth 100000 in
theorem put_any (w0 : World) (B r Bf Bw Bd Bp : Nat) (v : LoftV) (l : LoftD) (sl : Sl) (h0 : Wk w0 B r v l sl) (hBf : w0.heap.size ≤ Bf) (hl : LOk l) (day : Int) (hne : Bw ≠ Bf ∧ Bd ≠ Bf ∧ Bp ≠ Bf) :
    ∀ (n : Nat) (p : List Int) (sp : Sl) (W : World), p.length + n = l.cakes.length → PutIn w0 W B r Bf Bw Bd Bp l day → RdInts W sp p → (∀ ad, sp.a = some ad → ad.block ≠ Bf) →
    Calls Tryz.prog 153 #[.slice sp.a sp.n sp.c, .pointer (some ⟨Bw, 0, none⟩), .pointer (some ⟨Bf, 0, none⟩), .pointer (some ⟨Bd, 0, none⟩), .pointer (some ⟨Bp, 0, none⟩)] W (PutOut (plF l day n p) r Bf l W) := by
  intro n
  induction n with
  | zero => exact fun p sp W hn h hp hpf => put_leaf w0 B r Bf Bw Bd Bp v l sl h0 hBf day sp p W h hp (by omega) hpf
  | succ n ih =>
    intro p sp W hn h hp hpf
    have HIH := Lib.hid ih
    clear ih
    obtain ⟨sa, sn, sc⟩ := sp
    obtain ⟨vl, va, ⟨ba, bn, bc⟩, vc, vp, vw⟩ := v
    have HLP : Hid (p.length = sn) := hp.len
    have hwk := h0.two h.two hBf h.mem
    have hkc : p.length < l.cakes.length := by omega
    have hck : l.cakes[p.length]? = some l.cakes[p.length] := List.getElem?_eq_getElem hkc
    have HLC : Hid (l.cakes.length = vc.n) := hwk.rd.loft.cakes.len
    have HLS : Hid (l.shelves.length = bn) := hwk.rd.loft.shelves.len
    have hs3 : bn ≤ 3 := by have := hl.shelves3; have := HLS.out; omega
    have hsn5 : sn < 5 := by have := hl.cakes5; have := HLP.out; omega
    have hnb : ((sn : Int) == (vc.n : Int)) = false := by have := HLP.out; have := HLC.out; simp; omega
    have e1 := h.bw
    have c3 := hwk.rd.cells 3 (.slice vc.a vc.n vc.c) rfl
    have c2 := hwk.rd.cells 2 (.slice ba bn bc) rfl
    have HB : Hid (plF l day (n + 1) p = (List.range bn).findSome? (brF l day n p)) := by
      show _ = _
      rw [← HLS.out]; rfl
    have hrB : r ≠ Bf := fun e => by
      obtain ⟨x, hx⟩ := h.bf
      obtain ⟨es, clock, hr, _⟩ := h.mem.ex
      have := hx.at_
      rw [← e, hr] at this
      cases this
    have H := Lib.hid h
    have HN := Lib.hid hn
    have HCK := Lib.hid hck
    have HP := Lib.hid hp
    have HPF := Lib.hid hpf
    clear h hn hck hp hpf hwk
    go_enter Tryz.func153, Tryz.ntmps153
    go_wp2
    go_step3
    go_wp2
    go_step3
    go_wp2
    clear e1 c3 c2
    go_loopg [28] bn (fun g i wr => ∃ q : Nat, q + g = bn ∧ i = .int .i64 q ∧ Hid (∀ s, s < q → brF l day n p s = none) ∧ Hid (Memo wr r l (lexT l)) ∧ Hid (Two r Bf W wr) ∧ Hid (∃ x : Sl, Box wr Bf #[.slice x.a x.n x.c] 25))
    case atStart => exact ⟨0, by omega, rfl, (fun s hs => absurd hs (Nat.not_lt_zero s)), H.out.mem, Two.refl _ _ _, H.out.bf⟩
    case round =>
      obtain ⟨q, hqg, rfl, hq, HM, HT, HBX⟩ := hrel
      obtain ⟨g1, rfl⟩ : ∃ g1, g1 = gk := ⟨_, rfl⟩
      obtain ⟨wo, rfl⟩ : ∃ wo : World, wo = wr := ⟨_, rfl⟩
      by_cases hlt : q < bn
      · obtain ⟨bd, hbd⟩ := at_of_lt HLS.out hlt
        have hbr := hl.shelves bd (List.mem_of_getElem? hbd)
        have HW := Lib.hid (h0.two (H.out.two.trans HT.out) hBf HM.out)
        obtain ⟨b, o, ha, hbl, hrc, hdc⟩ := HW.out.rd.loft.shelves.board_at hbd
        simp only at ha
        subst ha
        have hro : roomOf l (q : Int) = bd.room := by rw [roomOf, gI_nat, hbd]
        obtain ⟨room, hroom⟩ : ∃ room, bd.room = room := ⟨_, rfl⟩
        rw [hroom] at hrc hro hbr
        have HRO := Lib.hid hro
        have HBD := Lib.hid hbd
        clear hro hroom hbd
        obtain ⟨W2, hNW2, BX2, hW2, hzW2⟩ := Box.named wo #[.int .i64 room, .int .i64 bd.draft] 182
        have r0 := BX2.cell 0 (.int .i64 room) rfl
        go_wp2
        clear hNW2 hrc hdc
        go_loopg [9, 35] sn (fun g2 m i wq => ∃ (j : Nat) (mm : Int), j + g2 = sn ∧ i = .int .i64 j ∧ m = .int .i64 mm ∧ Hid (mm = cnt (p.take j) q) ∧ (0 < room → mm < room) ∧ 0 ≤ mm ∧ mm ≤ j ∧ W2 = wq)
        case atStart => exact ⟨0, 0, by omega, rfl, rfl, by simp [Hid, cnt], (fun h => h), Int.le_refl _, Int.le_refl _, rfl⟩
        case round =>
          obtain ⟨j, mm, hjg, rfl, rfl, hmm, hmr, hm0, hm5, rfl⟩ := hrel
          obtain ⟨g2, rfl⟩ : ∃ g2, g2 = gk := ⟨_, rfl⟩
          have HM2 : Hid (Memo W2 r l (lexT l)) := HM.out.lift hW2
          have HT2 : Hid (Two r Bf W W2) := HT.out.on hW2
          have HBX2 : Hid (∃ x : Sl, Box W2 Bf #[.slice x.a x.n x.c] 25) := by
            obtain ⟨x, hx⟩ := HBX.out
            exact ⟨x, hx.lift hW2⟩
          by_cases hlt2 : j < sn
          · obtain ⟨x, hx⟩ := at_of_lt HLP.out hlt2
            obtain ⟨pb, po, hpa, hpbl, hpc⟩ := (RdInts.two H.out.mem HT2.out HP.out HPF.out).int_at hx
            have HC : Hid (cnt (p.take (j + 1)) q = cnt (p.take j) q + if x = q then 1 else 0) := cnt_take q hx
            simp only at hpa
            subst hpa
            clear hx
            by_cases hxq : x = (q : Int)
            · have hxb : (x == (q : Int)) = true := by simp [hxq]
              have HCC : Hid (cnt (p.take (j + 1)) q = mm + 1) := by show _ = _; rw [HC.out, if_pos hxq, hmm.out]
              clear hxq
              by_cases hmr2 : (mm + 1) = room
              · have hb2 : ((mm + 1) == room) = true := by simp [hmr2]
                have HE : Hid (brF l day n p q = none) := by
                  show _ = _
                  refine brF_none (Or.inl ?_)
                  rw [HRO.out]
                  have h1 := cnt_take_le p (j + 1) q
                  have h2 := HCC.out
                  omega
                clear hmr2
                go_wp2
                go_roundg (g1 - 1)
                case measure => omega
                case rel => exact ⟨q + 1, by omega, by go_num, (fun s hs => by
                  by_cases e : s = q
                  · rw [e]; exact HE.out
                  · exact hq.out s (by omega)), HM2.out, HT2.out, HBX2.out⟩
              · have hb2 : ((mm + 1) == room) = false := by simp [hmr2]
                have HMR2 := Lib.hid hmr2
                clear hmr2
                go_wp2
                go_roundg (g2 - 1)
                case measure => omega
                case rel => exact ⟨j + 1, (mm + 1), by omega, by go_num, by go_num, HCC.out.symm, (fun h => by have := hmr h; have := HMR2.out; omega), by omega, by omega, rfl⟩
            · have hxb : (x == (q : Int)) = false := by simp [hxq]
              have HCC : Hid (cnt (p.take (j + 1)) q = mm) := by show _ = _; rw [HC.out, if_neg hxq, hmm.out]; omega
              clear hxq
              by_cases hmr2 : mm = room
              · have hb2 : (mm == room) = true := by simp [hmr2]
                have HE : Hid (brF l day n p q = none) := by
                  show _ = _
                  refine brF_none (Or.inl ?_)
                  rw [HRO.out]
                  have h1 := cnt_take_le p (j + 1) q
                  have h2 := HCC.out
                  omega
                clear hmr2
                go_wp2
                go_roundg (g1 - 1)
                case measure => omega
                case rel => exact ⟨q + 1, by omega, by go_num, (fun s hs => by
                  by_cases e : s = q
                  · rw [e]; exact HE.out
                  · exact hq.out s (by omega)), HM2.out, HT2.out, HBX2.out⟩
              · have hb2 : (mm == room) = false := by simp [hmr2]
                have HMR2 := Lib.hid hmr2
                clear hmr2
                go_wp2
                go_roundg (g2 - 1)
                case measure => omega
                case rel => exact ⟨j + 1, mm, by omega, by go_num, by go_num, HCC.out.symm, (fun h => by have := hmr h; have := HMR2.out; omega), by omega, by omega, rfl⟩
          · obtain rfl : j = sn := by omega
            have HCT : Hid (mm = cnt p q) := by
              have h1 := hmm.out
              rwa [take_len HLP.out] at h1
            have hG := fun w' (h' : Wk w' B r ⟨vl, va, ⟨some ⟨b, o, none⟩, bn, bc⟩, vc, vp, vw⟩ l sl) => good_any B r _ l sl hl q p.length bd _ HBD.out HCK.out w' h'
            obtain ⟨d, hd⟩ : ∃ d, goodDay l (lexT l) q p.length = d := ⟨_, rfl⟩
            rw [hd, HLP.out] at hG
            have HGD := Lib.hid hd
            have HG := Lib.hid hG
            clear hd hG
            have bw2 := H.out.mem.two HT2.out hne.1 H.out.bw
            have bd2 := H.out.mem.two HT2.out hne.2.1 H.out.bd
            have bp2 := H.out.mem.two HT2.out hne.2.2 H.out.bp
            have HWK2 : Hid (Wk W2.drew B r ⟨vl, va, ⟨some ⟨b, o, none⟩, bn, bc⟩, vc, vp, vw⟩ l sl) := (HW.out.below hW2).below (below_drew _)
            by_cases hr0 : 0 < room
            · by_cases hdd : d ≤ day
              · have hbq : brF l day n p q = plF l day n (p ++ [(q : Int)]) := brF_eq (by rw [HRO.out]; have := HCT.out; have := hmr hr0; omega) (by rw [HGD.out]; exact hdd)
                have hdb : decide (d ≤ day) = true := by simp; omega
                have hgt : decide (0 < room) = true := by simp; omega
                have HRD := HP
                have hBp2 : Bp < W2.heap.size := World.block_lt_of_cell? W2 ⟨Bp, 0, none⟩ bp2
                have hBw2 : Bw < W2.heap.size := World.block_lt_of_cell? W2 ⟨Bw, 0, none⟩ bw2
                have hBd2 : Bd < W2.heap.size := World.block_lt_of_cell? W2 ⟨Bd, 0, none⟩ bd2
                have hwo2 : wo.heap.size < W2.heap.size := BX2.lt
                have hBf2 : Bf < W2.heap.size := by
                  obtain ⟨x, hx⟩ := HBX2.out
                  exact hx.lt
                have hml : j + 1 ≤ maxLen := by unfold maxLen; omega
                obtain ⟨i0, hi0, hz0, hz1, hz2⟩ := info_parts info3
                have HI := Lib.hid hi0
                have HZ0 := Lib.hid hz0
                have HZ1 := Lib.hid hz1
                have HZ2 := Lib.hid hz2
                clear hi0 hz0 hz1 hz2
                cases hres : plF l day n (p ++ [(q : Int)]) with
                | none =>
                  rw [hres] at hbq
                  have HE := Lib.hid hbq
                  have HRES := Lib.hid hres
                  clear hres hbq hdd
                  go_wp2
                  refine start_ (n := 22) (S := fun w' => w'.cell? ⟨wo.heap.size, 0, none⟩ = some (.int .i64 room) ∧ w'.cell? ⟨Bw, 0, none⟩ = some (.pointer (some ⟨B, 0, none⟩)) ∧ w'.cell? ⟨Bd, 0, none⟩ = some (.int .i64 day) ∧ w'.cell? ⟨Bp, 0, none⟩ = some (.func (.func 153) #[] #[.pointer (some ⟨Bw, 0, none⟩), .pointer (some ⟨Bf, 0, none⟩), .pointer (some ⟨Bd, 0, none⟩), .pointer (some ⟨Bp, 0, none⟩)])) (ds := [20]) #[false, false, false, false, false, false, false, false, false, false, false, false, false, false, false, false, false, false, false, false, false, false] (by kernel_rfl) rfl rfl ⟨r0, bw2, bd2, bp2⟩ (fun hHeld => ?_)
                  obtain ⟨s0, s1, s2, s3⟩ := hHeld
                  refine pure_ (i := 0) (N := some 49) (v := ?_) (a' := ?_) #[true, false, false, false, false, false, false, false, false, false, false, false, false, false, false, false, false, false, false, false, false, false] rfl rfl (by kernel_rfl) (fun _ _ _ h => h) (Or.inl ⟨by rfl, ?_⟩) ?_ ?_
                  rotate_left
                  · intro w'
                    go_simp
                    with_reducible rfl
                  rotate_left
                  · simp only [Act.put, List.setIfInBounds_toArray, List.set_cons_zero, List.set_cons_succ, i64_w, i32_w]
                    rfl
                  refine take_ (i := 1) (N := some 50) (v := ?_) (a' := ?_) #[true, true, false, false, false, false, false, false, false, false, false, false, false, false, false, false, false, false, false, false, false, false] rfl rfl (by kernel_rfl) (fun _ _ _ h => h) (Or.inl ⟨by rfl, ?_⟩) ⟨s0, s1, s2, s3⟩ ?_ ?_
                  rotate_left
                  · rintro w' ⟨zs0, zs1, zs2, zs3⟩
                    go_simp
                    with_reducible rfl
                  rotate_left
                  · simp only [Act.put, List.setIfInBounds_toArray, List.set_cons_zero, List.set_cons_succ, i64_w, i32_w]
                    rfl
                  refine pure_ (i := 2) (N := some 51) (v := ?_) (a' := ?_) #[true, true, true, false, false, false, false, false, false, false, false, false, false, false, false, false, false, false, false, false, false, false] rfl rfl (by kernel_rfl) (fun _ _ _ h => h) (Or.inl ⟨by rfl, ?_⟩) ?_ ?_
                  rotate_left
                  · intro w'
                    go_simp
                    with_reducible rfl
                  rotate_left
                  · simp only [Act.put, List.setIfInBounds_toArray, List.set_cons_zero, List.set_cons_succ, i64_w, i32_w]
                    rfl
                  refine pure_ (i := 3) (N := some 52) (v := ?_) (a' := ?_) #[true, true, true, true, false, false, false, false, false, false, false, false, false, false, false, false, false, false, false, false, false, false] rfl rfl (by kernel_rfl) (fun _ _ _ h => h) (Or.inl ⟨by rfl, ?_⟩) ?_ ?_
                  rotate_left
                  · intro w'
                    go_simp
                    with_reducible rfl
                  rotate_left
                  · simp only [Act.put, List.setIfInBounds_toArray, List.set_cons_zero, List.set_cons_succ, i64_w, i32_w]
                    rfl
                  refine pure_ (i := 5) (N := some 54) (v := ?_) (a' := ?_) #[true, true, true, true, false, true, false, false, false, false, false, false, false, false, false, false, false, false, false, false, false, false] rfl rfl (by kernel_rfl) (fun _ _ _ h => h) (Or.inl ⟨by rfl, ?_⟩) ?_ ?_
                  rotate_left
                  · intro w'
                    go_simp
                    with_reducible rfl
                  rotate_left
                  · simp only [Act.put, List.setIfInBounds_toArray, List.set_cons_zero, List.set_cons_succ, i64_w, i32_w]
                    rfl
                  refine pure_ (i := 6) (N := some 55) (v := ?_) (a' := ?_) #[true, true, true, true, false, true, true, false, false, false, false, false, false, false, false, false, false, false, false, false, false, false] rfl rfl (by kernel_rfl) (fun _ _ _ h => h) (Or.inl ⟨by rfl, ?_⟩) ?_ ?_
                  rotate_left
                  · intro w'
                    go_simp
                    with_reducible rfl
                  rotate_left
                  · simp only [Act.put, List.setIfInBounds_toArray, List.set_cons_zero, List.set_cons_succ, i64_w, i32_w]
                    rfl
                  refine pure_ (i := 7) (N := some 56) (v := ?_) (a' := ?_) #[true, true, true, true, false, true, true, true, false, false, false, false, false, false, false, false, false, false, false, false, false, false] rfl rfl (by kernel_rfl) (fun _ _ _ h => h) (Or.inl ⟨by rfl, ?_⟩) ?_ ?_
                  rotate_left
                  · intro w'
                    go_simp
                    with_reducible rfl
                  rotate_left
                  · simp only [Act.put, List.setIfInBounds_toArray, List.set_cons_zero, List.set_cons_succ, i64_w, i32_w]
                    rfl
                  refine pure_ (i := 8) (N := some 57) (v := ?_) (a' := ?_) #[true, true, true, true, false, true, true, true, true, false, false, false, false, false, false, false, false, false, false, false, false, false] rfl rfl (by kernel_rfl) (fun _ _ _ h => h) (Or.inl ⟨by rfl, ?_⟩) ?_ ?_
                  rotate_left
                  · intro w'
                    go_simp
                    with_reducible rfl
                  rotate_left
                  · simp only [Act.put, List.setIfInBounds_toArray, List.set_cons_zero, List.set_cons_succ, i64_w, i32_w]
                    rfl
                  refine take_ (i := 4) (N := some 53) (v := ?_) (a' := ?_) #[true, true, true, true, true, true, true, true, true, false, false, false, false, false, false, false, false, false, false, false, false, false] rfl rfl (by kernel_rfl) (fun _ _ _ h => h) (Or.inl ⟨by rfl, ?_⟩) ⟨s0, s1, s2, s3⟩ ?_ ?_
                  rotate_left
                  · rintro w' ⟨zs0, zs1, zs2, zs3⟩
                    go_simp
                    with_reducible rfl
                  rotate_left
                  · simp only [Act.put, List.setIfInBounds_toArray, List.set_cons_zero, List.set_cons_succ, i64_w, i32_w]
                    rfl
                  refine take_ (i := 10) (N := some 59) (v := ?_) (a' := ?_) #[true, true, true, true, true, true, true, true, true, false, true, false, false, false, false, false, false, false, false, false, false, false] rfl rfl (by kernel_rfl) (fun _ _ _ h => h) (Or.inl ⟨by rfl, ?_⟩) ⟨s0, s1, s2, s3⟩ ?_ ?_
                  rotate_left
                  · rintro w' ⟨zs0, zs1, zs2, zs3⟩
                    go_simp
                    with_reducible rfl
                  rotate_left
                  · simp only [Act.put, List.setIfInBounds_toArray, List.set_cons_zero, List.set_cons_succ, i64_w, i32_w]
                    rfl
                  refine one_ (i := 9) (N := some 58) #[true, true, true, true, true, true, true, true, true, true, true, false, false, false, false, false, false, false, false, false, false, false] rfl rfl (by kernel_rfl) (by decide) (fun K hK => ?_)
                  refine goes_ Tryz.func154 (by kernel_rfl) rfl #[.pointer (some ⟨B, 0, none⟩), .agg #[.int .i64 (j : Int), .int .i64 (q : Int)]] (by rfl) rfl rfl (by (try simp only [List.map_toArray, List.map_cons, List.map_nil]); first | done | rfl) ?_
                  refine (HG.out _ HWK2.out).mono ?_
                  rintro e w4 ⟨rfl, hm4, hg4⟩
                  have hkp := HWK2.out.mem.kept hg4
                  refine ⟨_, rfl, ?_⟩
                  have hT4 := (HT2.out.on (below_drew W2)).row hg4 (fun k e => Or.inr (by cases e; rfl))
                  have hrd4 := RdInts.two H.out.mem hT4 HRD.out HPF.out
                  have hs4 := hg4.size
                  simp only [World.size_drew] at hs4
                  refine hK.out _ _ ⟨hkp.cell _ _ _ s0, hkp.cell _ _ _ s1, hkp.cell _ _ _ s2, hkp.cell _ _ _ s3⟩ (fun hHeld => ?_)
                  clear hK K s0 s1 s2 s3
                  obtain ⟨s0, s1, s2, s3⟩ := hHeld
                  refine norm_ (a' := ?_) ?_ ?_
                  rotate_left
                  · show Act.put _ (some 58) _ = _
                    simp only [Act.put, List.setIfInBounds_toArray, List.set_cons_zero, List.set_cons_succ, i64_w, i32_w]
                    rfl
                  refine pure_ (i := 11) (N := some 60) (v := ?_) (a' := ?_) #[true, true, true, true, true, true, true, true, true, true, true, true, false, false, false, false, false, false, false, false, false, false] rfl rfl (by kernel_rfl) (fun _ _ _ h => h) (Or.inl ⟨by rfl, ?_⟩) ?_ ?_
                  rotate_left
                  · intro w'
                    go_simp
                    with_reducible rfl
                  rotate_left
                  · simp only [Act.put, List.setIfInBounds_toArray, List.set_cons_zero, List.set_cons_succ, i64_w, i32_w]
                    rfl
                  refine pure_ (i := 12) (N := some 61) (v := ?_) (a' := ?_) #[true, true, true, true, true, true, true, true, true, true, true, true, true, false, false, false, false, false, false, false, false, false] rfl rfl (by kernel_rfl) (fun _ _ _ h => h) (Or.inl ⟨by rfl, ?_⟩) ?_ ?_
                  rotate_left
                  · intro w'
                    go_simp
                    with_reducible rfl
                  rotate_left
                  · simp only [Act.put, List.setIfInBounds_toArray, List.set_cons_zero, List.set_cons_succ, i64_w, i32_w]
                    rfl
                  refine pure_ (i := 13) (N := some 62) (v := ?_) (a' := ?_) #[true, true, true, true, true, true, true, true, true, true, true, true, true, true, false, false, false, false, false, false, false, false] rfl rfl (by kernel_rfl) (fun _ _ _ h => h) (Or.inl ⟨by rfl, ?_⟩) ?_ ?_
                  rotate_left
                  · intro w'
                    go_simp
                    with_reducible rfl
                  rotate_left
                  · simp only [Act.put, List.setIfInBounds_toArray, List.set_cons_zero, List.set_cons_succ, i64_w, i32_w]
                    rfl
                  refine pure_ (i := 15) (N := some 64) (v := ?_) (a' := ?_) #[true, true, true, true, true, true, true, true, true, true, true, true, true, true, false, true, false, false, false, false, false, false] rfl rfl (by kernel_rfl) (fun _ _ _ h => h) (Or.inl ⟨by rfl, ?_⟩) ?_ ?_
                  rotate_left
                  · intro w'
                    go_simp
                    with_reducible rfl
                  rotate_left
                  · simp only [Act.put, List.setIfInBounds_toArray, List.set_cons_zero, List.set_cons_succ, i64_w, i32_w]
                    rfl
                  refine pure_ (i := 17) (N := some 66) (v := ?_) (a' := ?_) #[true, true, true, true, true, true, true, true, true, true, true, true, true, true, false, true, false, true, false, false, false, false] rfl rfl (by kernel_rfl) (fun _ _ _ h => h) (Or.inl ⟨by rfl, ?_⟩) ?_ ?_
                  rotate_left
                  · intro w'
                    go_simp
                    with_reducible rfl
                  rotate_left
                  · simp only [Act.put, List.setIfInBounds_toArray, List.set_cons_zero, List.set_cons_succ, i64_w, i32_w]
                    rfl
                  refine take_ (i := 14) (N := some 63) (v := ?_) (a' := ?_) #[true, true, true, true, true, true, true, true, true, true, true, true, true, true, true, true, false, true, false, false, false, false] rfl rfl (by kernel_rfl) (fun _ _ _ h => h) (Or.inl ⟨by rfl, ?_⟩) ⟨s0, s1, s2, s3⟩ ?_ ?_
                  rotate_left
                  · rintro w' ⟨zs0, zs1, zs2, zs3⟩
                    go_simp
                    with_reducible rfl
                  rotate_left
                  · simp only [Act.put, List.setIfInBounds_toArray, List.set_cons_zero, List.set_cons_succ, i64_w, i32_w]
                    rfl
                  refine join_ (σ := Value × Nat) 3 #[true, true, true, true, true, true, true, true, true, true, true, true, true, true, true, true, true, true, true, false, false, false] (fun s => [(65, s.1), (67, .slice (some ⟨s.2, 0, none⟩) 1 1)]) (fun s w' => (w'.ownsRow w4.heap.size 3 1 s.1 j (p.flatMap (fun x : Int => [Value.int .i64 x])) ∧ w'.heap[s.2]? = some (.cells #[.int .i64 (q : Int)] 3 (0, 0)) ∧ Below w4.heap.size w4 w') ∧ w'.cell? ⟨wo.heap.size, 0, none⟩ = some (.int .i64 room) ∧ w'.cell? ⟨Bw, 0, none⟩ = some (.pointer (some ⟨B, 0, none⟩)) ∧ w'.cell? ⟨Bd, 0, none⟩ = some (.int .i64 day) ∧ w'.cell? ⟨Bp, 0, none⟩ = some (.func (.func 153) #[] #[.pointer (some ⟨Bw, 0, none⟩), .pointer (some ⟨Bf, 0, none⟩), .pointer (some ⟨Bd, 0, none⟩), .pointer (some ⟨Bp, 0, none⟩)])) ?_ ?_
                  rotate_left
                  · intro hCont
                    refine two_ (i := 16) (j := 18) (Ni := some 65) (Nj := some 67) #[true, true, true, true, true, true, true, true, true, true, true, true, true, true, true, true, true, true, false, false, false, false] #[true, true, true, true, true, true, true, true, true, true, true, true, true, true, true, true, false, true, true, false, false, false] rfl rfl rfl rfl (by kernel_rfl) (by decide) (by decide) (fun K hK => ?_) (fun K hK => ?_)
                    · skip
                      refine goes_ Tryz.func102 (by kernel_rfl) rfl #[.slice sa j sc] (by rfl) rfl rfl (by (try simp only [List.map_toArray, List.map_cons, List.map_nil]); first | done | rfl) ?_
                      refine (CloneInt_any ⟨sa, j, sc⟩ p w4 hrd4 (by simp; omega)).mono ?_
                      rintro e w5 ⟨vv5, rfl, hown5, hb5⟩
                      refine ⟨_, rfl, ?_⟩
                      refine hK.out _ _ ⟨lift hb5 s0, lift hb5 s1, lift hb5 s2, lift hb5 s3⟩ (fun hHeld => ?_)
                      clear hK K s0 s1 s2 s3
                      obtain ⟨s0, s1, s2, s3⟩ := hHeld
                      refine norm_ (a' := ?_) ?_ ?_
                      rotate_left
                      · show Act.put _ (some 65) _ = _
                        simp only [Act.put, List.setIfInBounds_toArray, List.set_cons_zero, List.set_cons_succ, i64_w, i32_w]
                        rfl
                      refine one_ (i := 18) (N := some 67) #[true, true, true, true, true, true, true, true, true, true, true, true, true, true, true, true, true, true, true, false, false, false] rfl rfl (by kernel_rfl) (by decide) (fun K hK => ?_)
                      refine value_ (w1 := ?_) (v := ?_) (by rfl) rfl ?_ ?_
                      rotate_left 2
                      · go_simp
                        constructor
                        · rfl
                        · rfl
                      refine hK.out _ _ ⟨lift (below_box _ _) s0, lift (below_box _ _) s1, lift (below_box _ _) s2, lift (below_box _ _) s3⟩ (fun hHeld => ?_)
                      clear hK K s0 s1 s2 s3
                      obtain ⟨s0, s1, s2, s3⟩ := hHeld
                      refine norm_ (a' := ?_) ?_ ?_
                      rotate_left
                      · show Act.put _ (some 67) _ = _
                        simp only [Act.put, List.setIfInBounds_toArray, List.set_cons_zero, List.set_cons_succ, i64_w, i32_w]
                        rfl
                      exact norm_ (by simp only [putAll, Act.put, List.setIfInBounds_toArray, List.set_cons_zero, List.set_cons_succ]) (hCont (vv5, w5.heap.size) _ ⟨⟨hown5.alloc _, heap_alloc_new w5 _, below_on hb5 (below_box _ _)⟩, s0, s1, s2, s3⟩)
                    · skip
                      refine value_ (w1 := ?_) (v := ?_) (by rfl) rfl ?_ ?_
                      rotate_left 2
                      · go_simp
                        constructor
                        · rfl
                        · rfl
                      refine hK.out _ _ ⟨lift (below_box _ _) s0, lift (below_box _ _) s1, lift (below_box _ _) s2, lift (below_box _ _) s3⟩ (fun hHeld => ?_)
                      clear hK K s0 s1 s2 s3
                      obtain ⟨s0, s1, s2, s3⟩ := hHeld
                      refine norm_ (a' := ?_) ?_ ?_
                      rotate_left
                      · show Act.put _ (some 67) _ = _
                        simp only [Act.put, List.setIfInBounds_toArray, List.set_cons_zero, List.set_cons_succ, i64_w, i32_w]
                        rfl
                      refine one_ (i := 16) (N := some 65) #[true, true, true, true, true, true, true, true, true, true, true, true, true, true, true, true, true, true, true, false, false, false] rfl rfl (by kernel_rfl) (by decide) (fun K hK => ?_)
                      refine goes_ Tryz.func102 (by kernel_rfl) rfl #[.slice sa j sc] (by rfl) rfl rfl (by (try simp only [List.map_toArray, List.map_cons, List.map_nil]); first | done | rfl) ?_
                      refine (CloneInt_any ⟨sa, j, sc⟩ p _ (hrd4.below (encR_mono _) (below_box _ _)) (by simp; omega)).mono ?_
                      rintro e w5 ⟨vv5, rfl, hown5, hb5⟩
                      refine ⟨_, rfl, ?_⟩
                      refine hK.out _ _ ⟨lift hb5 s0, lift hb5 s1, lift hb5 s2, lift hb5 s3⟩ (fun hHeld => ?_)
                      clear hK K s0 s1 s2 s3
                      obtain ⟨s0, s1, s2, s3⟩ := hHeld
                      refine norm_ (a' := ?_) ?_ ?_
                      rotate_left
                      · show Act.put _ (some 65) _ = _
                        simp only [Act.put, List.setIfInBounds_toArray, List.set_cons_zero, List.set_cons_succ, i64_w, i32_w]
                        rfl
                      exact norm_ (by simp only [putAll, Act.put, List.setIfInBounds_toArray, List.set_cons_zero, List.set_cons_succ]) (hCont (vv5, w4.heap.size) _ ⟨⟨own_base hown5 (by simp), (hb5.block _ (by simp)).trans (heap_alloc_new w4 _), below_on (below_box _ _) hb5⟩, s0, s1, s2, s3⟩)
                  clear s0 s1 s2 s3
                  rintro ⟨vv5, gx⟩ w5 ⟨⟨hown5, hgx, hb5⟩, s0, s1, s2, s3⟩
                  refine norm_ (a' := ?_) ?_ ?_
                  rotate_left
                  · simp only [putAll, Act.put, List.setIfInBounds_toArray, List.set_cons_zero, List.set_cons_succ]
                    rfl
                  refine one_ (i := 19) (N := some 68) #[true, true, true, true, true, true, true, true, true, true, true, true, true, true, true, true, true, true, true, true, false, false] rfl rfl (by kernel_rfl) (by decide) (fun K hK => ?_)
                  have hs5 := hb5.size
                  have aw : vv5.ownBlock ≠ some Bw := own_ne hown5 (Or.inl (by omega))
                  have ad : vv5.ownBlock ≠ some Bd := own_ne hown5 (Or.inl (by omega))
                  have ap : vv5.ownBlock ≠ some Bp := own_ne hown5 (Or.inl (by omega))
                  have ao : vv5.ownBlock ≠ some wo.heap.size := own_ne hown5 (Or.inl (by omega))
                  refine wanted_ (by rfl) ?_
                  refine wp_append_lies _ _ _ _ (by rfl) w4.heap.size 3 i0 _ 1 8 Tryz.underlying25 HI.out HZ0.out HZ1.out HZ2.out rfl (by omega) vv5 j _ (by rfl) hown5 ⟨gx, 0, none⟩ 1 1 [.int .i64 (q : Int)] (by rfl) (by rfl) (World.news_of_block hgx) (by simp [Value.oneCell']) (by omega) hml (by omega) (by omega) w5.heap.size rfl ?_
                  intro gg cap w6 hown6 hgrow hat hlt6
                  have hT6 := (hT4.on hb5).row hgrow (fun k e => Or.inl (by have := (hown5.lt k e).1; have := HT2.out.size; omega))
                  have hr4 : r < w4.heap.size := by
                    obtain ⟨es, clock, hr, _⟩ := hm4.ex
                    exact (Array.getElem?_eq_some_iff.1 hr).1
                  have hm6 : Memo w6 r l (lexT l) := (hm4.lift hb5).grown hgrow (own_ne hown5 (Or.inl hr4))
                  have hbx6 : ∃ x : Sl, Box w6 Bf #[.slice x.a x.n x.c] 25 := by
                    obtain ⟨x, hx⟩ := HBX2.out
                    exact ⟨x, ((((hx.lift (below_drew _)).grown hg4 (fun e => hrB (by injection e))).lift hb5)).grown hgrow (own_ne hown5 (Or.inl (by omega)))⟩
                  have hlq : (p ++ [(q : Int)]).length = j + 1 := by rw [List.length_append, HLP.out]; rfl
                  have hrow6 : w6.ownsRow w4.heap.size 3 1 (.slice (some ⟨gg, 0, none⟩) (j + 1) cap) (j + 1) ((p ++ [(q : Int)]).map (Value.int .i64)) := by
                    have := hown6
                    rw [flatMap_ints] at this
                    simpa using this
                  obtain ⟨⟨ua, un, uc⟩, hvu, hun, hub, hru⟩ := own_ints hlq (by omega) hrow6
                  simp only [Value.slice.injEq] at hvu hun
                  obtain ⟨hu1, hu2, hu3⟩ := hvu
                  subst hu1
                  subst hun
                  subst hu3
                  have hC := HIH.out (p ++ [(q : Int)]) ⟨some ⟨gg, 0, none⟩, j + 1, cap⟩ w6 (by have := HN.out; rw [hlq]; have := HLP.out; omega) (H.out.on hne hT6 hm6 hbx6) hru.now (fun ad e => by have := hub ad e; have := HT2.out.size; omega)
                  rw [HRES.out] at hC
                  refine hK.out _ _ ⟨lift_grown hgrow s0 ao, lift_grown hgrow s1 aw, lift_grown hgrow s2 ad, lift_grown hgrow s3 ap⟩ (fun hHeld => ?_)
                  clear hK K s0 s1 s2 s3
                  obtain ⟨s0, s1, s2, s3⟩ := hHeld
                  refine norm_ (a' := ?_) ?_ ?_
                  rotate_left
                  · show Act.put _ (some 68) _ = _
                    simp only [Act.put, List.setIfInBounds_toArray, List.set_cons_zero, List.set_cons_succ, i64_w, i32_w]
                    rfl
                  refine last_ (i := 20) (N := some 69) #[true, true, true, true, true, true, true, true, true, true, true, true, true, true, true, true, true, true, true, true, true, false] rfl rfl (by kernel_rfl) (by decide) (fun K hK => ?_)
                  refine goesV_ Tryz.func153 (by kernel_rfl) rfl #[.slice (some ⟨gg, 0, none⟩) (j + 1) cap, .pointer (some ⟨Bw, 0, none⟩), .pointer (some ⟨Bf, 0, none⟩), .pointer (some ⟨Bd, 0, none⟩), .pointer (some ⟨Bp, 0, none⟩)] (by rfl) rfl rfl (by rfl) (by (try simp only [List.map_toArray, List.map_cons, List.map_nil]); first | done | rfl) ?_
                  refine hC.mono ?_
                  rintro e w7 ⟨hm7, ht7, rfl, hx7⟩
                  refine ⟨_, rfl, ?_⟩
                  refine hK.out _ _ ?_
                  clear hK K
                  clear s0 s1 s2 s3
                  refine norm_ (a' := ?_) ?_ ?_
                  rotate_left
                  · show Act.put _ (some 69) _ = _
                    simp only [Act.put, List.setIfInBounds_toArray, List.set_cons_zero, List.set_cons_succ, i64_w, i32_w]
                    rfl
                  refine pure_ (i := 21) (N := some 70) (v := ?_) (a' := ?_) #[true, true, true, true, true, true, true, true, true, true, true, true, true, true, true, true, true, true, true, true, true, true] rfl rfl (by kernel_rfl) (fun _ _ _ h => h) (Or.inl ⟨by rfl, ?_⟩) ?_ ?_
                  rotate_left
                  · intro w'
                    go_simp
                    with_reducible rfl
                  rotate_left
                  · simp only [Act.put, List.setIfInBounds_toArray, List.set_cons_zero, List.set_cons_succ, i64_w, i32_w]
                    rfl
                  refine done_ (by kernel_rfl) ?_
                  have HM2 := Lib.hid hm7
                  have HT2 := Lib.hid (hT6.trans ht7)
                  have HBX2 := Lib.hid hx7
                  go_wp2
                  go_roundg (g1 - 1)
                  case measure => omega
                  case rel => exact ⟨q + 1, by omega, by go_num, (fun s hs => by
                    by_cases e : s = q
                    · rw [e]; exact HE.out
                    · exact hq.out s (by omega)), HM2.out, HT2.out, HBX2.out⟩
                | some qq =>
                  rw [hres] at hbq
                  have HE : Hid (plF l day (n + 1) p = some qq) := by show _ = _; rw [HB.out, findSome_some hlt hbq hq.out]
                  have HRES := Lib.hid hres
                  clear hres hbq hdd
                  go_wp2
                  refine start_ (n := 22) (S := fun w' => w'.cell? ⟨wo.heap.size, 0, none⟩ = some (.int .i64 room) ∧ w'.cell? ⟨Bw, 0, none⟩ = some (.pointer (some ⟨B, 0, none⟩)) ∧ w'.cell? ⟨Bd, 0, none⟩ = some (.int .i64 day) ∧ w'.cell? ⟨Bp, 0, none⟩ = some (.func (.func 153) #[] #[.pointer (some ⟨Bw, 0, none⟩), .pointer (some ⟨Bf, 0, none⟩), .pointer (some ⟨Bd, 0, none⟩), .pointer (some ⟨Bp, 0, none⟩)])) (ds := [20]) #[false, false, false, false, false, false, false, false, false, false, false, false, false, false, false, false, false, false, false, false, false, false] (by kernel_rfl) rfl rfl ⟨r0, bw2, bd2, bp2⟩ (fun hHeld => ?_)
                  obtain ⟨s0, s1, s2, s3⟩ := hHeld
                  refine pure_ (i := 0) (N := some 49) (v := ?_) (a' := ?_) #[true, false, false, false, false, false, false, false, false, false, false, false, false, false, false, false, false, false, false, false, false, false] rfl rfl (by kernel_rfl) (fun _ _ _ h => h) (Or.inl ⟨by rfl, ?_⟩) ?_ ?_
                  rotate_left
                  · intro w'
                    go_simp
                    with_reducible rfl
                  rotate_left
                  · simp only [Act.put, List.setIfInBounds_toArray, List.set_cons_zero, List.set_cons_succ, i64_w, i32_w]
                    rfl
                  refine take_ (i := 1) (N := some 50) (v := ?_) (a' := ?_) #[true, true, false, false, false, false, false, false, false, false, false, false, false, false, false, false, false, false, false, false, false, false] rfl rfl (by kernel_rfl) (fun _ _ _ h => h) (Or.inl ⟨by rfl, ?_⟩) ⟨s0, s1, s2, s3⟩ ?_ ?_
                  rotate_left
                  · rintro w' ⟨zs0, zs1, zs2, zs3⟩
                    go_simp
                    with_reducible rfl
                  rotate_left
                  · simp only [Act.put, List.setIfInBounds_toArray, List.set_cons_zero, List.set_cons_succ, i64_w, i32_w]
                    rfl
                  refine pure_ (i := 2) (N := some 51) (v := ?_) (a' := ?_) #[true, true, true, false, false, false, false, false, false, false, false, false, false, false, false, false, false, false, false, false, false, false] rfl rfl (by kernel_rfl) (fun _ _ _ h => h) (Or.inl ⟨by rfl, ?_⟩) ?_ ?_
                  rotate_left
                  · intro w'
                    go_simp
                    with_reducible rfl
                  rotate_left
                  · simp only [Act.put, List.setIfInBounds_toArray, List.set_cons_zero, List.set_cons_succ, i64_w, i32_w]
                    rfl
                  refine pure_ (i := 3) (N := some 52) (v := ?_) (a' := ?_) #[true, true, true, true, false, false, false, false, false, false, false, false, false, false, false, false, false, false, false, false, false, false] rfl rfl (by kernel_rfl) (fun _ _ _ h => h) (Or.inl ⟨by rfl, ?_⟩) ?_ ?_
                  rotate_left
                  · intro w'
                    go_simp
                    with_reducible rfl
                  rotate_left
                  · simp only [Act.put, List.setIfInBounds_toArray, List.set_cons_zero, List.set_cons_succ, i64_w, i32_w]
                    rfl
                  refine pure_ (i := 5) (N := some 54) (v := ?_) (a' := ?_) #[true, true, true, true, false, true, false, false, false, false, false, false, false, false, false, false, false, false, false, false, false, false] rfl rfl (by kernel_rfl) (fun _ _ _ h => h) (Or.inl ⟨by rfl, ?_⟩) ?_ ?_
                  rotate_left
                  · intro w'
                    go_simp
                    with_reducible rfl
                  rotate_left
                  · simp only [Act.put, List.setIfInBounds_toArray, List.set_cons_zero, List.set_cons_succ, i64_w, i32_w]
                    rfl
                  refine pure_ (i := 6) (N := some 55) (v := ?_) (a' := ?_) #[true, true, true, true, false, true, true, false, false, false, false, false, false, false, false, false, false, false, false, false, false, false] rfl rfl (by kernel_rfl) (fun _ _ _ h => h) (Or.inl ⟨by rfl, ?_⟩) ?_ ?_
                  rotate_left
                  · intro w'
                    go_simp
                    with_reducible rfl
                  rotate_left
                  · simp only [Act.put, List.setIfInBounds_toArray, List.set_cons_zero, List.set_cons_succ, i64_w, i32_w]
                    rfl
                  refine pure_ (i := 7) (N := some 56) (v := ?_) (a' := ?_) #[true, true, true, true, false, true, true, true, false, false, false, false, false, false, false, false, false, false, false, false, false, false] rfl rfl (by kernel_rfl) (fun _ _ _ h => h) (Or.inl ⟨by rfl, ?_⟩) ?_ ?_
                  rotate_left
                  · intro w'
                    go_simp
                    with_reducible rfl
                  rotate_left
                  · simp only [Act.put, List.setIfInBounds_toArray, List.set_cons_zero, List.set_cons_succ, i64_w, i32_w]
                    rfl
                  refine pure_ (i := 8) (N := some 57) (v := ?_) (a' := ?_) #[true, true, true, true, false, true, true, true, true, false, false, false, false, false, false, false, false, false, false, false, false, false] rfl rfl (by kernel_rfl) (fun _ _ _ h => h) (Or.inl ⟨by rfl, ?_⟩) ?_ ?_
                  rotate_left
                  · intro w'
                    go_simp
                    with_reducible rfl
                  rotate_left
                  · simp only [Act.put, List.setIfInBounds_toArray, List.set_cons_zero, List.set_cons_succ, i64_w, i32_w]
                    rfl
                  refine take_ (i := 4) (N := some 53) (v := ?_) (a' := ?_) #[true, true, true, true, true, true, true, true, true, false, false, false, false, false, false, false, false, false, false, false, false, false] rfl rfl (by kernel_rfl) (fun _ _ _ h => h) (Or.inl ⟨by rfl, ?_⟩) ⟨s0, s1, s2, s3⟩ ?_ ?_
                  rotate_left
                  · rintro w' ⟨zs0, zs1, zs2, zs3⟩
                    go_simp
                    with_reducible rfl
                  rotate_left
                  · simp only [Act.put, List.setIfInBounds_toArray, List.set_cons_zero, List.set_cons_succ, i64_w, i32_w]
                    rfl
                  refine take_ (i := 10) (N := some 59) (v := ?_) (a' := ?_) #[true, true, true, true, true, true, true, true, true, false, true, false, false, false, false, false, false, false, false, false, false, false] rfl rfl (by kernel_rfl) (fun _ _ _ h => h) (Or.inl ⟨by rfl, ?_⟩) ⟨s0, s1, s2, s3⟩ ?_ ?_
                  rotate_left
                  · rintro w' ⟨zs0, zs1, zs2, zs3⟩
                    go_simp
                    with_reducible rfl
                  rotate_left
                  · simp only [Act.put, List.setIfInBounds_toArray, List.set_cons_zero, List.set_cons_succ, i64_w, i32_w]
                    rfl
                  refine one_ (i := 9) (N := some 58) #[true, true, true, true, true, true, true, true, true, true, true, false, false, false, false, false, false, false, false, false, false, false] rfl rfl (by kernel_rfl) (by decide) (fun K hK => ?_)
                  refine goes_ Tryz.func154 (by kernel_rfl) rfl #[.pointer (some ⟨B, 0, none⟩), .agg #[.int .i64 (j : Int), .int .i64 (q : Int)]] (by rfl) rfl rfl (by (try simp only [List.map_toArray, List.map_cons, List.map_nil]); first | done | rfl) ?_
                  refine (HG.out _ HWK2.out).mono ?_
                  rintro e w4 ⟨rfl, hm4, hg4⟩
                  have hkp := HWK2.out.mem.kept hg4
                  refine ⟨_, rfl, ?_⟩
                  have hT4 := (HT2.out.on (below_drew W2)).row hg4 (fun k e => Or.inr (by cases e; rfl))
                  have hrd4 := RdInts.two H.out.mem hT4 HRD.out HPF.out
                  have hs4 := hg4.size
                  simp only [World.size_drew] at hs4
                  refine hK.out _ _ ⟨hkp.cell _ _ _ s0, hkp.cell _ _ _ s1, hkp.cell _ _ _ s2, hkp.cell _ _ _ s3⟩ (fun hHeld => ?_)
                  clear hK K s0 s1 s2 s3
                  obtain ⟨s0, s1, s2, s3⟩ := hHeld
                  refine norm_ (a' := ?_) ?_ ?_
                  rotate_left
                  · show Act.put _ (some 58) _ = _
                    simp only [Act.put, List.setIfInBounds_toArray, List.set_cons_zero, List.set_cons_succ, i64_w, i32_w]
                    rfl
                  refine pure_ (i := 11) (N := some 60) (v := ?_) (a' := ?_) #[true, true, true, true, true, true, true, true, true, true, true, true, false, false, false, false, false, false, false, false, false, false] rfl rfl (by kernel_rfl) (fun _ _ _ h => h) (Or.inl ⟨by rfl, ?_⟩) ?_ ?_
                  rotate_left
                  · intro w'
                    go_simp
                    with_reducible rfl
                  rotate_left
                  · simp only [Act.put, List.setIfInBounds_toArray, List.set_cons_zero, List.set_cons_succ, i64_w, i32_w]
                    rfl
                  refine pure_ (i := 12) (N := some 61) (v := ?_) (a' := ?_) #[true, true, true, true, true, true, true, true, true, true, true, true, true, false, false, false, false, false, false, false, false, false] rfl rfl (by kernel_rfl) (fun _ _ _ h => h) (Or.inl ⟨by rfl, ?_⟩) ?_ ?_
                  rotate_left
                  · intro w'
                    go_simp
                    with_reducible rfl
                  rotate_left
                  · simp only [Act.put, List.setIfInBounds_toArray, List.set_cons_zero, List.set_cons_succ, i64_w, i32_w]
                    rfl
                  refine pure_ (i := 13) (N := some 62) (v := ?_) (a' := ?_) #[true, true, true, true, true, true, true, true, true, true, true, true, true, true, false, false, false, false, false, false, false, false] rfl rfl (by kernel_rfl) (fun _ _ _ h => h) (Or.inl ⟨by rfl, ?_⟩) ?_ ?_
                  rotate_left
                  · intro w'
                    go_simp
                    with_reducible rfl
                  rotate_left
                  · simp only [Act.put, List.setIfInBounds_toArray, List.set_cons_zero, List.set_cons_succ, i64_w, i32_w]
                    rfl
                  refine pure_ (i := 15) (N := some 64) (v := ?_) (a' := ?_) #[true, true, true, true, true, true, true, true, true, true, true, true, true, true, false, true, false, false, false, false, false, false] rfl rfl (by kernel_rfl) (fun _ _ _ h => h) (Or.inl ⟨by rfl, ?_⟩) ?_ ?_
                  rotate_left
                  · intro w'
                    go_simp
                    with_reducible rfl
                  rotate_left
                  · simp only [Act.put, List.setIfInBounds_toArray, List.set_cons_zero, List.set_cons_succ, i64_w, i32_w]
                    rfl
                  refine pure_ (i := 17) (N := some 66) (v := ?_) (a' := ?_) #[true, true, true, true, true, true, true, true, true, true, true, true, true, true, false, true, false, true, false, false, false, false] rfl rfl (by kernel_rfl) (fun _ _ _ h => h) (Or.inl ⟨by rfl, ?_⟩) ?_ ?_
                  rotate_left
                  · intro w'
                    go_simp
                    with_reducible rfl
                  rotate_left
                  · simp only [Act.put, List.setIfInBounds_toArray, List.set_cons_zero, List.set_cons_succ, i64_w, i32_w]
                    rfl
                  refine take_ (i := 14) (N := some 63) (v := ?_) (a' := ?_) #[true, true, true, true, true, true, true, true, true, true, true, true, true, true, true, true, false, true, false, false, false, false] rfl rfl (by kernel_rfl) (fun _ _ _ h => h) (Or.inl ⟨by rfl, ?_⟩) ⟨s0, s1, s2, s3⟩ ?_ ?_
                  rotate_left
                  · rintro w' ⟨zs0, zs1, zs2, zs3⟩
                    go_simp
                    with_reducible rfl
                  rotate_left
                  · simp only [Act.put, List.setIfInBounds_toArray, List.set_cons_zero, List.set_cons_succ, i64_w, i32_w]
                    rfl
                  refine join_ (σ := Value × Nat) 3 #[true, true, true, true, true, true, true, true, true, true, true, true, true, true, true, true, true, true, true, false, false, false] (fun s => [(65, s.1), (67, .slice (some ⟨s.2, 0, none⟩) 1 1)]) (fun s w' => (w'.ownsRow w4.heap.size 3 1 s.1 j (p.flatMap (fun x : Int => [Value.int .i64 x])) ∧ w'.heap[s.2]? = some (.cells #[.int .i64 (q : Int)] 3 (0, 0)) ∧ Below w4.heap.size w4 w') ∧ w'.cell? ⟨wo.heap.size, 0, none⟩ = some (.int .i64 room) ∧ w'.cell? ⟨Bw, 0, none⟩ = some (.pointer (some ⟨B, 0, none⟩)) ∧ w'.cell? ⟨Bd, 0, none⟩ = some (.int .i64 day) ∧ w'.cell? ⟨Bp, 0, none⟩ = some (.func (.func 153) #[] #[.pointer (some ⟨Bw, 0, none⟩), .pointer (some ⟨Bf, 0, none⟩), .pointer (some ⟨Bd, 0, none⟩), .pointer (some ⟨Bp, 0, none⟩)])) ?_ ?_
                  rotate_left
                  · intro hCont
                    refine two_ (i := 16) (j := 18) (Ni := some 65) (Nj := some 67) #[true, true, true, true, true, true, true, true, true, true, true, true, true, true, true, true, true, true, false, false, false, false] #[true, true, true, true, true, true, true, true, true, true, true, true, true, true, true, true, false, true, true, false, false, false] rfl rfl rfl rfl (by kernel_rfl) (by decide) (by decide) (fun K hK => ?_) (fun K hK => ?_)
                    · skip
                      refine goes_ Tryz.func102 (by kernel_rfl) rfl #[.slice sa j sc] (by rfl) rfl rfl (by (try simp only [List.map_toArray, List.map_cons, List.map_nil]); first | done | rfl) ?_
                      refine (CloneInt_any ⟨sa, j, sc⟩ p w4 hrd4 (by simp; omega)).mono ?_
                      rintro e w5 ⟨vv5, rfl, hown5, hb5⟩
                      refine ⟨_, rfl, ?_⟩
                      refine hK.out _ _ ⟨lift hb5 s0, lift hb5 s1, lift hb5 s2, lift hb5 s3⟩ (fun hHeld => ?_)
                      clear hK K s0 s1 s2 s3
                      obtain ⟨s0, s1, s2, s3⟩ := hHeld
                      refine norm_ (a' := ?_) ?_ ?_
                      rotate_left
                      · show Act.put _ (some 65) _ = _
                        simp only [Act.put, List.setIfInBounds_toArray, List.set_cons_zero, List.set_cons_succ, i64_w, i32_w]
                        rfl
                      refine one_ (i := 18) (N := some 67) #[true, true, true, true, true, true, true, true, true, true, true, true, true, true, true, true, true, true, true, false, false, false] rfl rfl (by kernel_rfl) (by decide) (fun K hK => ?_)
                      refine value_ (w1 := ?_) (v := ?_) (by rfl) rfl ?_ ?_
                      rotate_left 2
                      · go_simp
                        constructor
                        · rfl
                        · rfl
                      refine hK.out _ _ ⟨lift (below_box _ _) s0, lift (below_box _ _) s1, lift (below_box _ _) s2, lift (below_box _ _) s3⟩ (fun hHeld => ?_)
                      clear hK K s0 s1 s2 s3
                      obtain ⟨s0, s1, s2, s3⟩ := hHeld
                      refine norm_ (a' := ?_) ?_ ?_
                      rotate_left
                      · show Act.put _ (some 67) _ = _
                        simp only [Act.put, List.setIfInBounds_toArray, List.set_cons_zero, List.set_cons_succ, i64_w, i32_w]
                        rfl
                      exact norm_ (by simp only [putAll, Act.put, List.setIfInBounds_toArray, List.set_cons_zero, List.set_cons_succ]) (hCont (vv5, w5.heap.size) _ ⟨⟨hown5.alloc _, heap_alloc_new w5 _, below_on hb5 (below_box _ _)⟩, s0, s1, s2, s3⟩)
                    · skip
                      refine value_ (w1 := ?_) (v := ?_) (by rfl) rfl ?_ ?_
                      rotate_left 2
                      · go_simp
                        constructor
                        · rfl
                        · rfl
                      refine hK.out _ _ ⟨lift (below_box _ _) s0, lift (below_box _ _) s1, lift (below_box _ _) s2, lift (below_box _ _) s3⟩ (fun hHeld => ?_)
                      clear hK K s0 s1 s2 s3
                      obtain ⟨s0, s1, s2, s3⟩ := hHeld
                      refine norm_ (a' := ?_) ?_ ?_
                      rotate_left
                      · show Act.put _ (some 67) _ = _
                        simp only [Act.put, List.setIfInBounds_toArray, List.set_cons_zero, List.set_cons_succ, i64_w, i32_w]
                        rfl
                      refine one_ (i := 16) (N := some 65) #[true, true, true, true, true, true, true, true, true, true, true, true, true, true, true, true, true, true, true, false, false, false] rfl rfl (by kernel_rfl) (by decide) (fun K hK => ?_)
                      refine goes_ Tryz.func102 (by kernel_rfl) rfl #[.slice sa j sc] (by rfl) rfl rfl (by (try simp only [List.map_toArray, List.map_cons, List.map_nil]); first | done | rfl) ?_
                      refine (CloneInt_any ⟨sa, j, sc⟩ p _ (hrd4.below (encR_mono _) (below_box _ _)) (by simp; omega)).mono ?_
                      rintro e w5 ⟨vv5, rfl, hown5, hb5⟩
                      refine ⟨_, rfl, ?_⟩
                      refine hK.out _ _ ⟨lift hb5 s0, lift hb5 s1, lift hb5 s2, lift hb5 s3⟩ (fun hHeld => ?_)
                      clear hK K s0 s1 s2 s3
                      obtain ⟨s0, s1, s2, s3⟩ := hHeld
                      refine norm_ (a' := ?_) ?_ ?_
                      rotate_left
                      · show Act.put _ (some 65) _ = _
                        simp only [Act.put, List.setIfInBounds_toArray, List.set_cons_zero, List.set_cons_succ, i64_w, i32_w]
                        rfl
                      exact norm_ (by simp only [putAll, Act.put, List.setIfInBounds_toArray, List.set_cons_zero, List.set_cons_succ]) (hCont (vv5, w4.heap.size) _ ⟨⟨own_base hown5 (by simp), (hb5.block _ (by simp)).trans (heap_alloc_new w4 _), below_on (below_box _ _) hb5⟩, s0, s1, s2, s3⟩)
                  clear s0 s1 s2 s3
                  rintro ⟨vv5, gx⟩ w5 ⟨⟨hown5, hgx, hb5⟩, s0, s1, s2, s3⟩
                  refine norm_ (a' := ?_) ?_ ?_
                  rotate_left
                  · simp only [putAll, Act.put, List.setIfInBounds_toArray, List.set_cons_zero, List.set_cons_succ]
                    rfl
                  refine one_ (i := 19) (N := some 68) #[true, true, true, true, true, true, true, true, true, true, true, true, true, true, true, true, true, true, true, true, false, false] rfl rfl (by kernel_rfl) (by decide) (fun K hK => ?_)
                  have hs5 := hb5.size
                  have aw : vv5.ownBlock ≠ some Bw := own_ne hown5 (Or.inl (by omega))
                  have ad : vv5.ownBlock ≠ some Bd := own_ne hown5 (Or.inl (by omega))
                  have ap : vv5.ownBlock ≠ some Bp := own_ne hown5 (Or.inl (by omega))
                  have ao : vv5.ownBlock ≠ some wo.heap.size := own_ne hown5 (Or.inl (by omega))
                  refine wanted_ (by rfl) ?_
                  refine wp_append_lies _ _ _ _ (by rfl) w4.heap.size 3 i0 _ 1 8 Tryz.underlying25 HI.out HZ0.out HZ1.out HZ2.out rfl (by omega) vv5 j _ (by rfl) hown5 ⟨gx, 0, none⟩ 1 1 [.int .i64 (q : Int)] (by rfl) (by rfl) (World.news_of_block hgx) (by simp [Value.oneCell']) (by omega) hml (by omega) (by omega) w5.heap.size rfl ?_
                  intro gg cap w6 hown6 hgrow hat hlt6
                  have hT6 := (hT4.on hb5).row hgrow (fun k e => Or.inl (by have := (hown5.lt k e).1; have := HT2.out.size; omega))
                  have hr4 : r < w4.heap.size := by
                    obtain ⟨es, clock, hr, _⟩ := hm4.ex
                    exact (Array.getElem?_eq_some_iff.1 hr).1
                  have hm6 : Memo w6 r l (lexT l) := (hm4.lift hb5).grown hgrow (own_ne hown5 (Or.inl hr4))
                  have hbx6 : ∃ x : Sl, Box w6 Bf #[.slice x.a x.n x.c] 25 := by
                    obtain ⟨x, hx⟩ := HBX2.out
                    exact ⟨x, ((((hx.lift (below_drew _)).grown hg4 (fun e => hrB (by injection e))).lift hb5)).grown hgrow (own_ne hown5 (Or.inl (by omega)))⟩
                  have hlq : (p ++ [(q : Int)]).length = j + 1 := by rw [List.length_append, HLP.out]; rfl
                  have hrow6 : w6.ownsRow w4.heap.size 3 1 (.slice (some ⟨gg, 0, none⟩) (j + 1) cap) (j + 1) ((p ++ [(q : Int)]).map (Value.int .i64)) := by
                    have := hown6
                    rw [flatMap_ints] at this
                    simpa using this
                  obtain ⟨⟨ua, un, uc⟩, hvu, hun, hub, hru⟩ := own_ints hlq (by omega) hrow6
                  simp only [Value.slice.injEq] at hvu hun
                  obtain ⟨hu1, hu2, hu3⟩ := hvu
                  subst hu1
                  subst hun
                  subst hu3
                  have hC := HIH.out (p ++ [(q : Int)]) ⟨some ⟨gg, 0, none⟩, j + 1, cap⟩ w6 (by have := HN.out; rw [hlq]; have := HLP.out; omega) (H.out.on hne hT6 hm6 hbx6) hru.now (fun ad e => by have := hub ad e; have := HT2.out.size; omega)
                  rw [HRES.out] at hC
                  refine hK.out _ _ ⟨lift_grown hgrow s0 ao, lift_grown hgrow s1 aw, lift_grown hgrow s2 ad, lift_grown hgrow s3 ap⟩ (fun hHeld => ?_)
                  clear hK K s0 s1 s2 s3
                  obtain ⟨s0, s1, s2, s3⟩ := hHeld
                  refine norm_ (a' := ?_) ?_ ?_
                  rotate_left
                  · show Act.put _ (some 68) _ = _
                    simp only [Act.put, List.setIfInBounds_toArray, List.set_cons_zero, List.set_cons_succ, i64_w, i32_w]
                    rfl
                  refine last_ (i := 20) (N := some 69) #[true, true, true, true, true, true, true, true, true, true, true, true, true, true, true, true, true, true, true, true, true, false] rfl rfl (by kernel_rfl) (by decide) (fun K hK => ?_)
                  refine goesV_ Tryz.func153 (by kernel_rfl) rfl #[.slice (some ⟨gg, 0, none⟩) (j + 1) cap, .pointer (some ⟨Bw, 0, none⟩), .pointer (some ⟨Bf, 0, none⟩), .pointer (some ⟨Bd, 0, none⟩), .pointer (some ⟨Bp, 0, none⟩)] (by rfl) rfl rfl (by rfl) (by (try simp only [List.map_toArray, List.map_cons, List.map_nil]); first | done | rfl) ?_
                  refine hC.mono ?_
                  rintro e w7 ⟨hm7, ht7, rfl, hx7⟩
                  refine ⟨_, rfl, ?_⟩
                  refine hK.out _ _ ?_
                  clear hK K
                  clear s0 s1 s2 s3
                  refine norm_ (a' := ?_) ?_ ?_
                  rotate_left
                  · show Act.put _ (some 69) _ = _
                    simp only [Act.put, List.setIfInBounds_toArray, List.set_cons_zero, List.set_cons_succ, i64_w, i32_w]
                    rfl
                  refine pure_ (i := 21) (N := some 70) (v := ?_) (a' := ?_) #[true, true, true, true, true, true, true, true, true, true, true, true, true, true, true, true, true, true, true, true, true, true] rfl rfl (by kernel_rfl) (fun _ _ _ h => h) (Or.inl ⟨by rfl, ?_⟩) ?_ ?_
                  rotate_left
                  · intro w'
                    go_simp
                    with_reducible rfl
                  rotate_left
                  · simp only [Act.put, List.setIfInBounds_toArray, List.set_cons_zero, List.set_cons_succ, i64_w, i32_w]
                    rfl
                  refine done_ (by kernel_rfl) ?_
                  have HX7 := Lib.hid hx7
                  clear hx7
                  go_wp2
                  try rw [Exit.noGoto_ret]
                  go_ret
                  rw [HE.out]
                  exact ⟨hm7, hT6.trans ht7, rfl, HX7.out⟩
              · have HE : Hid (brF l day n p q = none) := brF_none (Or.inr (by rw [HGD.out]; exact hdd))
                have hdb : decide (d ≤ day) = false := by simp; omega
                have hgt : decide (0 < room) = true := by simp; omega
                clear hdd
                go_wp2
                refine start_ (n := 22) (S := fun w' => w'.cell? ⟨wo.heap.size, 0, none⟩ = some (.int .i64 room) ∧ w'.cell? ⟨Bw, 0, none⟩ = some (.pointer (some ⟨B, 0, none⟩)) ∧ w'.cell? ⟨Bd, 0, none⟩ = some (.int .i64 day)) (ds := []) #[false, false, false, false, false, false, false, false, false, false, false, false, false, false, false, false, false, false, false, false, false, false] (by kernel_rfl) rfl rfl ⟨r0, bw2, bd2⟩ (fun hHeld => ?_)
                obtain ⟨s0, s1, s2⟩ := hHeld
                refine pure_ (i := 0) (N := some 49) (v := ?_) (a' := ?_) #[true, false, false, false, false, false, false, false, false, false, false, false, false, false, false, false, false, false, false, false, false, false] rfl rfl (by kernel_rfl) (fun _ _ _ h => h) (Or.inl ⟨by rfl, ?_⟩) ?_ ?_
                rotate_left
                · intro w'
                  go_simp
                  with_reducible rfl
                rotate_left
                · simp only [Act.put, List.setIfInBounds_toArray, List.set_cons_zero, List.set_cons_succ, i64_w, i32_w]
                  rfl
                refine take_ (i := 1) (N := some 50) (v := ?_) (a' := ?_) #[true, true, false, false, false, false, false, false, false, false, false, false, false, false, false, false, false, false, false, false, false, false] rfl rfl (by kernel_rfl) (fun _ _ _ h => h) (Or.inl ⟨by rfl, ?_⟩) ⟨s0, s1, s2⟩ ?_ ?_
                rotate_left
                · rintro w' ⟨zs0, zs1, zs2⟩
                  go_simp
                  with_reducible rfl
                rotate_left
                · simp only [Act.put, List.setIfInBounds_toArray, List.set_cons_zero, List.set_cons_succ, i64_w, i32_w]
                  rfl
                refine pure_ (i := 2) (N := some 51) (v := ?_) (a' := ?_) #[true, true, true, false, false, false, false, false, false, false, false, false, false, false, false, false, false, false, false, false, false, false] rfl rfl (by kernel_rfl) (fun _ _ _ h => h) (Or.inl ⟨by rfl, ?_⟩) ?_ ?_
                rotate_left
                · intro w'
                  go_simp
                  with_reducible rfl
                rotate_left
                · simp only [Act.put, List.setIfInBounds_toArray, List.set_cons_zero, List.set_cons_succ, i64_w, i32_w]
                  rfl
                refine pure_ (i := 3) (N := some 52) (v := ?_) (a' := ?_) #[true, true, true, true, false, false, false, false, false, false, false, false, false, false, false, false, false, false, false, false, false, false] rfl rfl (by kernel_rfl) (fun _ _ _ h => h) (Or.inl ⟨by rfl, ?_⟩) ?_ ?_
                rotate_left
                · intro w'
                  go_simp
                  with_reducible rfl
                rotate_left
                · simp only [Act.put, List.setIfInBounds_toArray, List.set_cons_zero, List.set_cons_succ, i64_w, i32_w]
                  rfl
                refine pure_ (i := 5) (N := some 54) (v := ?_) (a' := ?_) #[true, true, true, true, false, true, false, false, false, false, false, false, false, false, false, false, false, false, false, false, false, false] rfl rfl (by kernel_rfl) (fun _ _ _ h => h) (Or.inl ⟨by rfl, ?_⟩) ?_ ?_
                rotate_left
                · intro w'
                  go_simp
                  with_reducible rfl
                rotate_left
                · simp only [Act.put, List.setIfInBounds_toArray, List.set_cons_zero, List.set_cons_succ, i64_w, i32_w]
                  rfl
                refine pure_ (i := 6) (N := some 55) (v := ?_) (a' := ?_) #[true, true, true, true, false, true, true, false, false, false, false, false, false, false, false, false, false, false, false, false, false, false] rfl rfl (by kernel_rfl) (fun _ _ _ h => h) (Or.inl ⟨by rfl, ?_⟩) ?_ ?_
                rotate_left
                · intro w'
                  go_simp
                  with_reducible rfl
                rotate_left
                · simp only [Act.put, List.setIfInBounds_toArray, List.set_cons_zero, List.set_cons_succ, i64_w, i32_w]
                  rfl
                refine pure_ (i := 7) (N := some 56) (v := ?_) (a' := ?_) #[true, true, true, true, false, true, true, true, false, false, false, false, false, false, false, false, false, false, false, false, false, false] rfl rfl (by kernel_rfl) (fun _ _ _ h => h) (Or.inl ⟨by rfl, ?_⟩) ?_ ?_
                rotate_left
                · intro w'
                  go_simp
                  with_reducible rfl
                rotate_left
                · simp only [Act.put, List.setIfInBounds_toArray, List.set_cons_zero, List.set_cons_succ, i64_w, i32_w]
                  rfl
                refine pure_ (i := 8) (N := some 57) (v := ?_) (a' := ?_) #[true, true, true, true, false, true, true, true, true, false, false, false, false, false, false, false, false, false, false, false, false, false] rfl rfl (by kernel_rfl) (fun _ _ _ h => h) (Or.inl ⟨by rfl, ?_⟩) ?_ ?_
                rotate_left
                · intro w'
                  go_simp
                  with_reducible rfl
                rotate_left
                · simp only [Act.put, List.setIfInBounds_toArray, List.set_cons_zero, List.set_cons_succ, i64_w, i32_w]
                  rfl
                refine take_ (i := 4) (N := some 53) (v := ?_) (a' := ?_) #[true, true, true, true, true, true, true, true, true, false, false, false, false, false, false, false, false, false, false, false, false, false] rfl rfl (by kernel_rfl) (fun _ _ _ h => h) (Or.inl ⟨by rfl, ?_⟩) ⟨s0, s1, s2⟩ ?_ ?_
                rotate_left
                · rintro w' ⟨zs0, zs1, zs2⟩
                  go_simp
                  with_reducible rfl
                rotate_left
                · simp only [Act.put, List.setIfInBounds_toArray, List.set_cons_zero, List.set_cons_succ, i64_w, i32_w]
                  rfl
                refine take_ (i := 10) (N := some 59) (v := ?_) (a' := ?_) #[true, true, true, true, true, true, true, true, true, false, true, false, false, false, false, false, false, false, false, false, false, false] rfl rfl (by kernel_rfl) (fun _ _ _ h => h) (Or.inl ⟨by rfl, ?_⟩) ⟨s0, s1, s2⟩ ?_ ?_
                rotate_left
                · rintro w' ⟨zs0, zs1, zs2⟩
                  go_simp
                  with_reducible rfl
                rotate_left
                · simp only [Act.put, List.setIfInBounds_toArray, List.set_cons_zero, List.set_cons_succ, i64_w, i32_w]
                  rfl
                refine one_ (i := 9) (N := some 58) #[true, true, true, true, true, true, true, true, true, true, true, false, false, false, false, false, false, false, false, false, false, false] rfl rfl (by kernel_rfl) (by decide) (fun K hK => ?_)
                refine goes_ Tryz.func154 (by kernel_rfl) rfl #[.pointer (some ⟨B, 0, none⟩), .agg #[.int .i64 (j : Int), .int .i64 (q : Int)]] (by rfl) rfl rfl (by (try simp only [List.map_toArray, List.map_cons, List.map_nil]); first | done | rfl) ?_
                refine (HG.out _ HWK2.out).mono ?_
                rintro e w4 ⟨rfl, hm4, hg4⟩
                have hkp := HWK2.out.mem.kept hg4
                refine ⟨_, rfl, ?_⟩
                refine hK.out _ _ ⟨hkp.cell _ _ _ s0, hkp.cell _ _ _ s1, hkp.cell _ _ _ s2⟩ (fun hHeld => ?_)
                clear hK K s0 s1 s2
                obtain ⟨s0, s1, s2⟩ := hHeld
                refine norm_ (a' := ?_) ?_ ?_
                rotate_left
                · show Act.put _ (some 58) _ = _
                  simp only [Act.put, List.setIfInBounds_toArray, List.set_cons_zero, List.set_cons_succ, i64_w, i32_w]
                  rfl
                refine pure_ (i := 11) (N := some 60) (v := ?_) (a' := ?_) #[true, true, true, true, true, true, true, true, true, true, true, true, false, false, false, false, false, false, false, false, false, false] rfl rfl (by kernel_rfl) (fun _ _ _ h => h) (Or.inl ⟨by rfl, ?_⟩) ?_ ?_
                rotate_left
                · intro w'
                  go_simp
                  with_reducible rfl
                rotate_left
                · simp only [Act.put, List.setIfInBounds_toArray, List.set_cons_zero, List.set_cons_succ, i64_w, i32_w]
                  rfl
                refine pure_ (i := 12) (N := some 61) (v := ?_) (a' := ?_) #[true, true, true, true, true, true, true, true, true, true, true, true, true, false, false, false, false, false, false, false, false, false] rfl rfl (by kernel_rfl) (fun _ _ _ h => h) (Or.inl ⟨by rfl, ?_⟩) ?_ ?_
                rotate_left
                · intro w'
                  go_simp
                  with_reducible rfl
                rotate_left
                · simp only [Act.put, List.setIfInBounds_toArray, List.set_cons_zero, List.set_cons_succ, i64_w, i32_w]
                  rfl
                refine pure_ (i := 13) (N := some 62) (v := ?_) (a' := ?_) #[true, true, true, true, true, true, true, true, true, true, true, true, true, true, false, false, false, false, false, false, false, false] rfl rfl (by kernel_rfl) (fun _ _ _ h => h) (Or.inl ⟨by rfl, ?_⟩) ?_ ?_
                rotate_left
                · intro w'
                  go_simp
                  with_reducible rfl
                rotate_left
                · simp only [Act.put, List.setIfInBounds_toArray, List.set_cons_zero, List.set_cons_succ, i64_w, i32_w]
                  rfl
                refine pure_ (i := 14) (N := some 63) (v := undef) (a' := ?_) #[true, true, true, true, true, true, true, true, true, true, true, true, true, true, true, false, false, false, false, false, false, false] rfl rfl (by kernel_rfl) (fun _ _ _ h => h) (Or.inr ⟨by rfl, rfl⟩) ?_ ?_
                rotate_left
                · simp only [Act.put, List.setIfInBounds_toArray, List.set_cons_zero, List.set_cons_succ, i64_w, i32_w]
                  rfl
                refine pure_ (i := 15) (N := some 64) (v := undef) (a' := ?_) #[true, true, true, true, true, true, true, true, true, true, true, true, true, true, true, true, false, false, false, false, false, false] rfl rfl (by kernel_rfl) (fun _ _ _ h => h) (Or.inr ⟨by rfl, rfl⟩) ?_ ?_
                rotate_left
                · simp only [Act.put, List.setIfInBounds_toArray, List.set_cons_zero, List.set_cons_succ, i64_w, i32_w]
                  rfl
                refine pure_ (i := 16) (N := some 65) (v := undef) (a' := ?_) #[true, true, true, true, true, true, true, true, true, true, true, true, true, true, true, true, true, false, false, false, false, false] rfl rfl (by kernel_rfl) (fun _ _ _ h => h) (Or.inr ⟨by rfl, rfl⟩) ?_ ?_
                rotate_left
                · simp only [Act.put, List.setIfInBounds_toArray, List.set_cons_zero, List.set_cons_succ, i64_w, i32_w]
                  rfl
                refine pure_ (i := 17) (N := some 66) (v := undef) (a' := ?_) #[true, true, true, true, true, true, true, true, true, true, true, true, true, true, true, true, true, true, false, false, false, false] rfl rfl (by kernel_rfl) (fun _ _ _ h => h) (Or.inr ⟨by rfl, rfl⟩) ?_ ?_
                rotate_left
                · simp only [Act.put, List.setIfInBounds_toArray, List.set_cons_zero, List.set_cons_succ, i64_w, i32_w]
                  rfl
                refine pure_ (i := 18) (N := some 67) (v := undef) (a' := ?_) #[true, true, true, true, true, true, true, true, true, true, true, true, true, true, true, true, true, true, true, false, false, false] rfl rfl (by kernel_rfl) (fun _ _ _ h => h) (Or.inr ⟨by rfl, rfl⟩) ?_ ?_
                rotate_left
                · simp only [Act.put, List.setIfInBounds_toArray, List.set_cons_zero, List.set_cons_succ, i64_w, i32_w]
                  rfl
                refine pure_ (i := 19) (N := some 68) (v := undef) (a' := ?_) #[true, true, true, true, true, true, true, true, true, true, true, true, true, true, true, true, true, true, true, true, false, false] rfl rfl (by kernel_rfl) (fun _ _ _ h => h) (Or.inr ⟨by rfl, rfl⟩) ?_ ?_
                rotate_left
                · simp only [Act.put, List.setIfInBounds_toArray, List.set_cons_zero, List.set_cons_succ, i64_w, i32_w]
                  rfl
                refine pure_ (i := 20) (N := some 69) (v := undef) (a' := ?_) #[true, true, true, true, true, true, true, true, true, true, true, true, true, true, true, true, true, true, true, true, true, false] rfl rfl (by kernel_rfl) (fun _ _ _ h => h) (Or.inr ⟨by rfl, rfl⟩) ?_ ?_
                rotate_left
                · simp only [Act.put, List.setIfInBounds_toArray, List.set_cons_zero, List.set_cons_succ, i64_w, i32_w]
                  rfl
                refine pure_ (i := 21) (N := some 70) (v := ?_) (a' := ?_) #[true, true, true, true, true, true, true, true, true, true, true, true, true, true, true, true, true, true, true, true, true, true] rfl rfl (by kernel_rfl) (fun _ _ _ h => h) (Or.inl ⟨by rfl, ?_⟩) ?_ ?_
                rotate_left
                · intro w'
                  go_simp
                  with_reducible rfl
                rotate_left
                · simp only [Act.put, List.setIfInBounds_toArray, List.set_cons_zero, List.set_cons_succ, i64_w, i32_w]
                  rfl
                refine done_ (by kernel_rfl) ?_
                have HM2 := Lib.hid hm4
                have HT2 := Lib.hid ((HT2.out.on (below_drew W2)).row hg4 (fun k e => Or.inr (by cases e; rfl)))
                have HBX2 : Hid (∃ x : Sl, Box w4 Bf #[.slice x.a x.n x.c] 25) := by
                  obtain ⟨x, hx⟩ := HBX2.out
                  exact ⟨x, (hx.lift (below_drew _)).grown hg4 (fun e => hrB (by injection e))⟩
                go_wp2
                go_roundg (g1 - 1)
                case measure => omega
                case rel => exact ⟨q + 1, by omega, by go_num, (fun s hs => by
                  by_cases e : s = q
                  · rw [e]; exact HE.out
                  · exact hq.out s (by omega)), HM2.out, HT2.out, HBX2.out⟩
            · have HE : Hid (brF l day n p q = none) := brF_none (Or.inl (by rw [HRO.out]; have := cnt_nonneg p q; omega))
              have hgt : decide (0 < room) = false := by simp; omega
              go_wp2
              refine start_ (n := 22) (S := fun w' => w'.cell? ⟨wo.heap.size, 0, none⟩ = some (.int .i64 room)) (ds := []) #[false, false, false, false, false, false, false, false, false, false, false, false, false, false, false, false, false, false, false, false, false, false] (by kernel_rfl) rfl rfl r0 (fun hHeld => ?_)
              have s0 := hHeld
              clear hHeld
              refine pure_ (i := 0) (N := some 49) (v := ?_) (a' := ?_) #[true, false, false, false, false, false, false, false, false, false, false, false, false, false, false, false, false, false, false, false, false, false] rfl rfl (by kernel_rfl) (fun _ _ _ h => h) (Or.inl ⟨by rfl, ?_⟩) ?_ ?_
              rotate_left
              · intro w'
                go_simp
                with_reducible rfl
              rotate_left
              · simp only [Act.put, List.setIfInBounds_toArray, List.set_cons_zero, List.set_cons_succ, i64_w, i32_w]
                rfl
              refine take_ (i := 1) (N := some 50) (v := ?_) (a' := ?_) #[true, true, false, false, false, false, false, false, false, false, false, false, false, false, false, false, false, false, false, false, false, false] rfl rfl (by kernel_rfl) (fun _ _ _ h => h) (Or.inl ⟨by rfl, ?_⟩) s0 ?_ ?_
              rotate_left
              · rintro w' zs0
                go_simp
                with_reducible rfl
              rotate_left
              · simp only [Act.put, List.setIfInBounds_toArray, List.set_cons_zero, List.set_cons_succ, i64_w, i32_w]
                rfl
              refine pure_ (i := 2) (N := some 51) (v := ?_) (a' := ?_) #[true, true, true, false, false, false, false, false, false, false, false, false, false, false, false, false, false, false, false, false, false, false] rfl rfl (by kernel_rfl) (fun _ _ _ h => h) (Or.inl ⟨by rfl, ?_⟩) ?_ ?_
              rotate_left
              · intro w'
                go_simp
                with_reducible rfl
              rotate_left
              · simp only [Act.put, List.setIfInBounds_toArray, List.set_cons_zero, List.set_cons_succ, i64_w, i32_w]
                rfl
              refine pure_ (i := 3) (N := some 52) (v := ?_) (a' := ?_) #[true, true, true, true, false, false, false, false, false, false, false, false, false, false, false, false, false, false, false, false, false, false] rfl rfl (by kernel_rfl) (fun _ _ _ h => h) (Or.inl ⟨by rfl, ?_⟩) ?_ ?_
              rotate_left
              · intro w'
                go_simp
                with_reducible rfl
              rotate_left
              · simp only [Act.put, List.setIfInBounds_toArray, List.set_cons_zero, List.set_cons_succ, i64_w, i32_w]
                rfl
              refine pure_ (i := 4) (N := some 53) (v := undef) (a' := ?_) #[true, true, true, true, true, false, false, false, false, false, false, false, false, false, false, false, false, false, false, false, false, false] rfl rfl (by kernel_rfl) (fun _ _ _ h => h) (Or.inr ⟨by rfl, rfl⟩) ?_ ?_
              rotate_left
              · simp only [Act.put, List.setIfInBounds_toArray, List.set_cons_zero, List.set_cons_succ, i64_w, i32_w]
                rfl
              refine pure_ (i := 5) (N := some 54) (v := undef) (a' := ?_) #[true, true, true, true, true, true, false, false, false, false, false, false, false, false, false, false, false, false, false, false, false, false] rfl rfl (by kernel_rfl) (fun _ _ _ h => h) (Or.inr ⟨by rfl, rfl⟩) ?_ ?_
              rotate_left
              · simp only [Act.put, List.setIfInBounds_toArray, List.set_cons_zero, List.set_cons_succ, i64_w, i32_w]
                rfl
              refine pure_ (i := 6) (N := some 55) (v := undef) (a' := ?_) #[true, true, true, true, true, true, true, false, false, false, false, false, false, false, false, false, false, false, false, false, false, false] rfl rfl (by kernel_rfl) (fun _ _ _ h => h) (Or.inr ⟨by rfl, rfl⟩) ?_ ?_
              rotate_left
              · simp only [Act.put, List.setIfInBounds_toArray, List.set_cons_zero, List.set_cons_succ, i64_w, i32_w]
                rfl
              refine pure_ (i := 7) (N := some 56) (v := undef) (a' := ?_) #[true, true, true, true, true, true, true, true, false, false, false, false, false, false, false, false, false, false, false, false, false, false] rfl rfl (by kernel_rfl) (fun _ _ _ h => h) (Or.inr ⟨by rfl, rfl⟩) ?_ ?_
              rotate_left
              · simp only [Act.put, List.setIfInBounds_toArray, List.set_cons_zero, List.set_cons_succ, i64_w, i32_w]
                rfl
              refine pure_ (i := 8) (N := some 57) (v := undef) (a' := ?_) #[true, true, true, true, true, true, true, true, true, false, false, false, false, false, false, false, false, false, false, false, false, false] rfl rfl (by kernel_rfl) (fun _ _ _ h => h) (Or.inr ⟨by rfl, rfl⟩) ?_ ?_
              rotate_left
              · simp only [Act.put, List.setIfInBounds_toArray, List.set_cons_zero, List.set_cons_succ, i64_w, i32_w]
                rfl
              refine pure_ (i := 9) (N := some 58) (v := undef) (a' := ?_) #[true, true, true, true, true, true, true, true, true, true, false, false, false, false, false, false, false, false, false, false, false, false] rfl rfl (by kernel_rfl) (fun _ _ _ h => h) (Or.inr ⟨by rfl, rfl⟩) ?_ ?_
              rotate_left
              · simp only [Act.put, List.setIfInBounds_toArray, List.set_cons_zero, List.set_cons_succ, i64_w, i32_w]
                rfl
              refine pure_ (i := 10) (N := some 59) (v := undef) (a' := ?_) #[true, true, true, true, true, true, true, true, true, true, true, false, false, false, false, false, false, false, false, false, false, false] rfl rfl (by kernel_rfl) (fun _ _ _ h => h) (Or.inr ⟨by rfl, rfl⟩) ?_ ?_
              rotate_left
              · simp only [Act.put, List.setIfInBounds_toArray, List.set_cons_zero, List.set_cons_succ, i64_w, i32_w]
                rfl
              refine pure_ (i := 11) (N := some 60) (v := undef) (a' := ?_) #[true, true, true, true, true, true, true, true, true, true, true, true, false, false, false, false, false, false, false, false, false, false] rfl rfl (by kernel_rfl) (fun _ _ _ h => h) (Or.inr ⟨by rfl, rfl⟩) ?_ ?_
              rotate_left
              · simp only [Act.put, List.setIfInBounds_toArray, List.set_cons_zero, List.set_cons_succ, i64_w, i32_w]
                rfl
              refine pure_ (i := 12) (N := some 61) (v := ?_) (a' := ?_) #[true, true, true, true, true, true, true, true, true, true, true, true, true, false, false, false, false, false, false, false, false, false] rfl rfl (by kernel_rfl) (fun _ _ _ h => h) (Or.inl ⟨by rfl, ?_⟩) ?_ ?_
              rotate_left
              · intro w'
                go_simp
                with_reducible rfl
              rotate_left
              · simp only [Act.put, List.setIfInBounds_toArray, List.set_cons_zero, List.set_cons_succ, i64_w, i32_w]
                rfl
              refine pure_ (i := 13) (N := some 62) (v := ?_) (a' := ?_) #[true, true, true, true, true, true, true, true, true, true, true, true, true, true, false, false, false, false, false, false, false, false] rfl rfl (by kernel_rfl) (fun _ _ _ h => h) (Or.inl ⟨by rfl, ?_⟩) ?_ ?_
              rotate_left
              · intro w'
                go_simp
                with_reducible rfl
              rotate_left
              · simp only [Act.put, List.setIfInBounds_toArray, List.set_cons_zero, List.set_cons_succ, i64_w, i32_w]
                rfl
              refine pure_ (i := 14) (N := some 63) (v := undef) (a' := ?_) #[true, true, true, true, true, true, true, true, true, true, true, true, true, true, true, false, false, false, false, false, false, false] rfl rfl (by kernel_rfl) (fun _ _ _ h => h) (Or.inr ⟨by rfl, rfl⟩) ?_ ?_
              rotate_left
              · simp only [Act.put, List.setIfInBounds_toArray, List.set_cons_zero, List.set_cons_succ, i64_w, i32_w]
                rfl
              refine pure_ (i := 15) (N := some 64) (v := undef) (a' := ?_) #[true, true, true, true, true, true, true, true, true, true, true, true, true, true, true, true, false, false, false, false, false, false] rfl rfl (by kernel_rfl) (fun _ _ _ h => h) (Or.inr ⟨by rfl, rfl⟩) ?_ ?_
              rotate_left
              · simp only [Act.put, List.setIfInBounds_toArray, List.set_cons_zero, List.set_cons_succ, i64_w, i32_w]
                rfl
              refine pure_ (i := 16) (N := some 65) (v := undef) (a' := ?_) #[true, true, true, true, true, true, true, true, true, true, true, true, true, true, true, true, true, false, false, false, false, false] rfl rfl (by kernel_rfl) (fun _ _ _ h => h) (Or.inr ⟨by rfl, rfl⟩) ?_ ?_
              rotate_left
              · simp only [Act.put, List.setIfInBounds_toArray, List.set_cons_zero, List.set_cons_succ, i64_w, i32_w]
                rfl
              refine pure_ (i := 17) (N := some 66) (v := undef) (a' := ?_) #[true, true, true, true, true, true, true, true, true, true, true, true, true, true, true, true, true, true, false, false, false, false] rfl rfl (by kernel_rfl) (fun _ _ _ h => h) (Or.inr ⟨by rfl, rfl⟩) ?_ ?_
              rotate_left
              · simp only [Act.put, List.setIfInBounds_toArray, List.set_cons_zero, List.set_cons_succ, i64_w, i32_w]
                rfl
              refine pure_ (i := 18) (N := some 67) (v := undef) (a' := ?_) #[true, true, true, true, true, true, true, true, true, true, true, true, true, true, true, true, true, true, true, false, false, false] rfl rfl (by kernel_rfl) (fun _ _ _ h => h) (Or.inr ⟨by rfl, rfl⟩) ?_ ?_
              rotate_left
              · simp only [Act.put, List.setIfInBounds_toArray, List.set_cons_zero, List.set_cons_succ, i64_w, i32_w]
                rfl
              refine pure_ (i := 19) (N := some 68) (v := undef) (a' := ?_) #[true, true, true, true, true, true, true, true, true, true, true, true, true, true, true, true, true, true, true, true, false, false] rfl rfl (by kernel_rfl) (fun _ _ _ h => h) (Or.inr ⟨by rfl, rfl⟩) ?_ ?_
              rotate_left
              · simp only [Act.put, List.setIfInBounds_toArray, List.set_cons_zero, List.set_cons_succ, i64_w, i32_w]
                rfl
              refine pure_ (i := 20) (N := some 69) (v := undef) (a' := ?_) #[true, true, true, true, true, true, true, true, true, true, true, true, true, true, true, true, true, true, true, true, true, false] rfl rfl (by kernel_rfl) (fun _ _ _ h => h) (Or.inr ⟨by rfl, rfl⟩) ?_ ?_
              rotate_left
              · simp only [Act.put, List.setIfInBounds_toArray, List.set_cons_zero, List.set_cons_succ, i64_w, i32_w]
                rfl
              refine pure_ (i := 21) (N := some 70) (v := ?_) (a' := ?_) #[true, true, true, true, true, true, true, true, true, true, true, true, true, true, true, true, true, true, true, true, true, true] rfl rfl (by kernel_rfl) (fun _ _ _ h => h) (Or.inl ⟨by rfl, ?_⟩) ?_ ?_
              rotate_left
              · intro w'
                go_simp
                with_reducible rfl
              rotate_left
              · simp only [Act.put, List.setIfInBounds_toArray, List.set_cons_zero, List.set_cons_succ, i64_w, i32_w]
                rfl
              refine done_ (by kernel_rfl) ?_
              have HM2 := Lib.hid (HM2.out.lift (below_drew W2))
              have HT2 := Lib.hid (HT2.out.on (below_drew W2))
              have HBX2 : Hid (∃ x : Sl, Box W2.drew Bf #[.slice x.a x.n x.c] 25) := by
                obtain ⟨x, hx⟩ := HBX2.out
                exact ⟨x, hx.lift (below_drew _)⟩
              go_wp2
              go_roundg (g1 - 1)
              case measure => omega
              case rel => exact ⟨q + 1, by omega, by go_num, (fun s hs => by
                by_cases e : s = q
                · rw [e]; exact HE.out
                · exact hq.out s (by omega)), HM2.out, HT2.out, HBX2.out⟩
      · obtain rfl : q = bn := by omega
        have HE : Hid (plF l day (n + 1) p = none) := by show _ = _; rw [HB.out, findSome_none hq.out]
        go_wp2
        try rw [Exit.noGoto_ret]
        go_ret
        rw [HE.out]
        exact ⟨HM.out, HT.out, rfl, HBX.out⟩
end Go.Proofs.YtenfnakhijobkaaGreat
