/- A law's conversion of markets. Conditions: the market reads as it does; lists of at most 100 elements. A slice copied behind an empty one of the call's own ('append([]T{}, xs...)'): it reads as it did, in memory of its own. Conditions: at most 100000 elements. How the arguments of a statement lie in memory: slices, structs of numbers, lofts, markets. Conditions: they are read as the row's form says. A market, a loft, a note, a weight, handed in as an argument: how it reads. Conditions: they are read as the row's form says. Closed facts of the program, as the rows ask them. Conditions: none. -/
import Derived.Test.YtenfnakhijobkaaGreatPb01
import Derived.Test.YtenfnakhijobkaaGreatPb03
import Derived.Test.YtenfnakhijobkaaGreatPb09
import Derived.Test.YtenfnakhijobkaaGreatPb10
import Derived.Deep.Slices
import Derived.ChangeArms
import Derived.SizedLaws
import Derived.Test.YtenfnakhijobkaaGreatRows
import Derived.JoinedOf
import Derived.KernelRfl
set_option linter.unusedVariables false
set_option linter.unusedSimpArgs false
namespace Go.Proofs.YtenfnakhijobkaaGreat
open Go.RowKit Go.Proofs.YtenfnakhijobkaaGreatW.PrintLast
theorem info149 : (Tryz.prog.info? 149).map (fun i => (i.zero, i.size, i.bytes)) = some (some (.agg #[.int .i64 0, .int .i64 0, .int .i64 0]), 3, 24) := by kernel_rfl
theorem info150 : (Tryz.prog.info? 150).map (fun i => (i.zero, i.size, i.bytes)) = some (some (.agg #[.slice none 0 0, .int .i64 0]), 2, 32) := by kernel_rfl
theorem info152 : (Tryz.prog.info? 152).map (fun i => (i.zero, i.size, i.bytes)) = some (some (.agg #[.int .i64 0, .int .i64 0, .int .i64 0]), 3, 24) := by kernel_rfl
theorem Acc.offS {α : Type} {R : World → α → List Value → Prop} {S0 : Nat → Prop} {e sz base : Nat} {w : World} {v : Value} {xs : List α} (h : Acc R S0 e sz base w v xs) (hS : ∀ k, S0 k → k < base ∨ w.heap.size ≤ k) (hsm : xs.length * sz ≤ 281474976710656) : ∃ s : Sl, v = .slice s.a s.n s.c ∧ s.n = xs.length ∧ Off (fun W => Rd R sz W s xs) S0 w := by
  obtain ⟨rows, h1, h2, h3, h4⟩ := h.ex
  rcases h3.2 with ⟨rfl, h0⟩ | ⟨g, cap, cur, rfl, hb, hh, _⟩
  · have : xs = [] := List.eq_nil_of_length_eq_zero h0
    subst this
    exact ⟨⟨none, 0, 0⟩, rfl, rfl, fun w' _ _ => rd_nil0 _ _ _ _ _⟩
  · have hglt := (Array.getElem?_eq_some_iff.1 hh).1
    refine ⟨⟨_, xs.length, cap⟩, rfl, rfl, fun w' hs hk => ⟨rfl, hsm, fun j x hx => ?_⟩⟩
    have hj := (List.getElem?_eq_some_iff.1 hx).1
    obtain ⟨cs, hcs⟩ : ∃ cs, rows[j]? = some cs := ⟨rows[j], List.getElem?_eq_getElem (by omega)⟩
    have hl := h2 cs (List.mem_of_getElem? hcs)
    refine ⟨g, 0, cs, rfl, Nat.lt_of_lt_of_le hglt hs, hl, h4 j x cs hx hcs w' hs (fun i hi hn => hk i hi (fun e => hn (Or.inl e))), fun k u hku => ?_⟩
    have := h3.cells (g := g) rfl (j * sz + k) u (flatten_at h2 hcs hku)
    rw [show (⟨g, 0, none⟩ : Addr).add (j * sz + k) = ⟨g, j * sz + k, none⟩ from by unfold Addr.add; split <;> simp_all] at this
    rw [Nat.zero_add, ← this]
    unfold World.cell?
    simp only [hk g hglt (fun e => by have := hS g e; omega)]
structure SmallL (l : LoftD) : Prop where
  air : l.air.length ≤ 100
  shelves : l.shelves.length ≤ 100
  cakes : l.cakes.length ≤ 100
  put : l.put.length ≤ 100
  weights : l.weights.length ≤ 100
structure SmallM (m : MktD) : Prop where
  loft : SmallL m.loft
  sales : m.sales.length ≤ 100
  chests : m.chests.length ≤ 100
  notes : m.notes.length ≤ 100
  cakes : ∀ c ∈ m.chests, c.cakes.length ≤ 100
theorem LoftS_any (v : LoftV) (l : LoftD) (w : World) (h : RdLoft w v l) (hs : SmallL l) : Calls Tryz.prog 51 #[.agg v.cs] w (RetLoft w l) :=
  Loft_any v l w h (by have := h.air.len; have := hs.air; omega) (by have := h.shelves.len; have := hs.shelves; omega) (by have := h.cakes.len; have := hs.cakes; omega) (by have := h.put.len; have := hs.put; omega) (by have := h.weights.len; have := hs.weights; omega)
/-- A market is returned, in memory of its own. -/
def RetMkt (w : World) (m : MktD) (e : Ending) (w' : World) : Prop := ∃ v : MktV, e = .returned (.agg v.cs) ∧ Fr (fun W => RdMkt W v m) w.heap.size w' ∧ Below w.heap.size w w'
set_option maxHeartbeats 8000000 in
set_option maxRecDepth 100000 in
theorem Market_any (v : MktV) (m : MktD) (w : World) (h : RdMkt w v m) (hsm : SmallM m) :
    Calls Tryz.prog 26 #[.agg v.cs] w (RetMkt w m) := by
  have HLs : Hid (m.sales.length = v.sales.n) := h.sales.len
  have HLc : Hid (m.chests.length = v.chests.n) := h.chests.len
  have HLn : Hid (m.notes.length = v.notes.n) := h.notes.len
  have hs100 : v.sales.n ≤ 100 := by have := hsm.sales; have := HLs.out; omega
  have hc100 : v.chests.n ≤ 100 := by have := hsm.chests; have := HLc.out; omega
  have hn100 : v.notes.n ≤ 100 := by have := hsm.notes; have := HLn.out; omega
  obtain ⟨W0, hNW0, BX, hW0, hzW0⟩ := Box.named w (MktV.cs v) 33
  obtain ⟨W1, hNW1, BR, hW1, hzW1⟩ := Box.named W0 #[.int .i64 0, .slice none 0 0, .slice none 0 0, .slice none 0 0, .slice none 0 0, .slice none 0 0, .slice none 0 0, .slice none 0 0, .int .i64 0, .int .i64 0, .slice none 0 0] 49
  have BX1 := BX.lift hW1
  have hw1 := below_on hW0 hW1
  have c0 := BX1.cell 0 (.int .i64 v.loft.last) rfl
  have c1 := BX1.cell 1 (.slice v.loft.air.a v.loft.air.n v.loft.air.c) rfl
  have c2 := BX1.cell 2 (.slice v.loft.shelves.a v.loft.shelves.n v.loft.shelves.c) rfl
  have c3 := BX1.cell 3 (.slice v.loft.cakes.a v.loft.cakes.n v.loft.cakes.c) rfl
  have c4 := BX1.cell 4 (.slice v.loft.put.a v.loft.put.n v.loft.put.c) rfl
  have c5 := BX1.cell 5 (.slice v.loft.weights.a v.loft.weights.n v.loft.weights.c) rfl
  have c6 := BX1.cell 6 (.slice v.sales.a v.sales.n v.sales.c) rfl
  have c7 := BX1.cell 7 (.slice v.chests.a v.chests.n v.chests.c) rfl
  have c8 := BX1.cell 8 (.int .i64 v.step) rfl
  have c9 := BX1.cell 9 (.int .i64 v.lots) rfl
  have c10 := BX1.cell 10 (.slice v.notes.a v.notes.n v.notes.c) rfl
  go_enter Tryz.func26, Tryz.ntmps26
  go_wp2
  clear hNW0 hNW1
  refine start_ (n := 10) (S := fun w' => w'.cell? ⟨w.heap.size, 0, none⟩ = some (.int .i64 v.loft.last) ∧ w'.cell? ⟨w.heap.size, 1, none⟩ = some (.slice v.loft.air.a v.loft.air.n v.loft.air.c) ∧ w'.cell? ⟨w.heap.size, 2, none⟩ = some (.slice v.loft.shelves.a v.loft.shelves.n v.loft.shelves.c) ∧ w'.cell? ⟨w.heap.size, 3, none⟩ = some (.slice v.loft.cakes.a v.loft.cakes.n v.loft.cakes.c) ∧ w'.cell? ⟨w.heap.size, 4, none⟩ = some (.slice v.loft.put.a v.loft.put.n v.loft.put.c) ∧ w'.cell? ⟨w.heap.size, 5, none⟩ = some (.slice v.loft.weights.a v.loft.weights.n v.loft.weights.c) ∧ w'.cell? ⟨w.heap.size, 8, none⟩ = some (.int .i64 v.step) ∧ w'.cell? ⟨w.heap.size, 9, none⟩ = some (.int .i64 v.lots)) (ds := [9]) #[false, false, false, false, false, false, false, false, false, false] (by kernel_rfl) rfl rfl ⟨c0, c1, c2, c3, c4, c5, c8, c9⟩ (fun hHeld => ?_)
  obtain ⟨s0, s1, s2, s3, s4, s5, s6, s7⟩ := hHeld
  refine pure_ (i := 0) (N := some 7) (v := ?_) (a' := ?_) #[true, false, false, false, false, false, false, false, false, false] rfl rfl (by kernel_rfl) (fun _ _ _ h => h) (Or.inl ⟨by rfl, ?_⟩) ?_ ?_
  rotate_left
  · intro w'
    go_simp
    with_reducible rfl
  rotate_left
  · simp only [Act.put, List.setIfInBounds_toArray, List.set_cons_zero, List.set_cons_succ, i64_w, i32_w]
    rfl
  refine pure_ (i := 3) (N := some 10) (v := ?_) (a' := ?_) #[true, false, false, true, false, false, false, false, false, false] rfl rfl (by kernel_rfl) (fun _ _ _ h => h) (Or.inl ⟨by rfl, ?_⟩) ?_ ?_
  rotate_left
  · intro w'
    go_simp
    with_reducible rfl
  rotate_left
  · simp only [Act.put, List.setIfInBounds_toArray, List.set_cons_zero, List.set_cons_succ, i64_w, i32_w]
    rfl
  refine pure_ (i := 5) (N := some 12) (v := ?_) (a' := ?_) #[true, false, false, true, false, true, false, false, false, false] rfl rfl (by kernel_rfl) (fun _ _ _ h => h) (Or.inl ⟨by rfl, ?_⟩) ?_ ?_
  rotate_left
  · intro w'
    go_simp
    with_reducible rfl
  rotate_left
  · simp only [Act.put, List.setIfInBounds_toArray, List.set_cons_zero, List.set_cons_succ, i64_w, i32_w]
    rfl
  refine take_ (i := 1) (N := some 8) (v := ?_) (a' := ?_) #[true, true, false, true, false, true, false, false, false, false] rfl rfl (by kernel_rfl) (fun _ _ _ h => h) (Or.inl ⟨by rfl, ?_⟩) ⟨s0, s1, s2, s3, s4, s5, s6, s7⟩ ?_ ?_
  rotate_left
  · rintro w' ⟨zs0, zs1, zs2, zs3, zs4, zs5, zs6, zs7⟩
    go_simp
    with_reducible rfl
  rotate_left
  · simp only [Act.put, List.setIfInBounds_toArray, List.set_cons_zero, List.set_cons_succ, i64_w, i32_w]
    rfl
  refine take_ (i := 4) (N := some 11) (v := ?_) (a' := ?_) #[true, true, false, true, true, true, false, false, false, false] rfl rfl (by kernel_rfl) (fun _ _ _ h => h) (Or.inl ⟨by rfl, ?_⟩) ⟨s0, s1, s2, s3, s4, s5, s6, s7⟩ ?_ ?_
  rotate_left
  · rintro w' ⟨zs0, zs1, zs2, zs3, zs4, zs5, zs6, zs7⟩
    go_simp
    with_reducible rfl
  rotate_left
  · simp only [Act.put, List.setIfInBounds_toArray, List.set_cons_zero, List.set_cons_succ, i64_w, i32_w]
    rfl
  refine take_ (i := 6) (N := some 13) (v := ?_) (a' := ?_) #[true, true, false, true, true, true, true, false, false, false] rfl rfl (by kernel_rfl) (fun _ _ _ h => h) (Or.inl ⟨by rfl, ?_⟩) ⟨s0, s1, s2, s3, s4, s5, s6, s7⟩ ?_ ?_
  rotate_left
  · rintro w' ⟨zs0, zs1, zs2, zs3, zs4, zs5, zs6, zs7⟩
    go_simp
    with_reducible rfl
  rotate_left
  · simp only [Act.put, List.setIfInBounds_toArray, List.set_cons_zero, List.set_cons_succ, i64_w, i32_w]
    rfl
  refine join_ (σ := LoftV × Nat) 1 #[true, true, true, true, true, true, true, true, true, false] (fun s => [(9, .agg #[.int .i64 s.1.last, .slice s.1.air.a s.1.air.n s.1.air.c, .slice s.1.shelves.a s.1.shelves.n s.1.shelves.c, .slice s.1.cakes.a s.1.cakes.n s.1.cakes.c, .slice s.1.put.a s.1.put.n s.1.put.c, .slice s.1.weights.a s.1.weights.n s.1.weights.c]), (14, .agg #[.int .i64 s.1.last, .slice s.1.air.a s.1.air.n s.1.air.c, .slice s.1.shelves.a s.1.shelves.n s.1.shelves.c, .slice s.1.cakes.a s.1.cakes.n s.1.cakes.c, .slice s.1.put.a s.1.put.n s.1.put.c, .slice s.1.weights.a s.1.weights.n s.1.weights.c, .slice none 0 0, .slice none 0 0, .int .i64 v.step, .int .i64 v.lots, .slice none 0 0]), (3, .pointer (some ⟨s.2, 0, none⟩))]) (fun s w' => (Box w' s.2 #[.int .i64 0, .slice none 0 0, .slice none 0 0, .slice none 0 0, .slice none 0 0, .slice none 0 0, .slice none 0 0, .slice none 0 0, .int .i64 0, .int .i64 0, .slice none 0 0] 49 ∧ Off (fun W => RdLoft W s.1 m.loft) (fun k => k = s.2 ∨ k < W1.heap.size) w' ∧ Below W1.heap.size W1 w' ∧ W1.heap.size ≤ s.2) ∧ w'.cell? ⟨w.heap.size, 0, none⟩ = some (.int .i64 v.loft.last) ∧ w'.cell? ⟨w.heap.size, 1, none⟩ = some (.slice v.loft.air.a v.loft.air.n v.loft.air.c) ∧ w'.cell? ⟨w.heap.size, 2, none⟩ = some (.slice v.loft.shelves.a v.loft.shelves.n v.loft.shelves.c) ∧ w'.cell? ⟨w.heap.size, 3, none⟩ = some (.slice v.loft.cakes.a v.loft.cakes.n v.loft.cakes.c) ∧ w'.cell? ⟨w.heap.size, 4, none⟩ = some (.slice v.loft.put.a v.loft.put.n v.loft.put.c) ∧ w'.cell? ⟨w.heap.size, 5, none⟩ = some (.slice v.loft.weights.a v.loft.weights.n v.loft.weights.c) ∧ w'.cell? ⟨w.heap.size, 8, none⟩ = some (.int .i64 v.step) ∧ w'.cell? ⟨w.heap.size, 9, none⟩ = some (.int .i64 v.lots)) ?_ ?_
  rotate_left
  · intro hCont
    refine two_ (i := 2) (j := 8) (Ni := some 9) (Nj := some 3) #[true, true, true, true, true, true, true, false, false, false] #[true, true, false, true, true, true, true, false, true, false] rfl rfl rfl rfl (by kernel_rfl) (by decide) (by decide) (fun K hK => ?_) (fun K hK => ?_)
    · skip
      refine goes_ Tryz.func51 (by kernel_rfl) rfl #[.agg v.loft.cs] (by rfl) rfl rfl (by (try simp only [List.map_toArray, List.map_cons, List.map_nil]); first | done | rfl) ?_
      refine (LoftS_any v.loft m.loft _ (h.loft.below (below_on hw1 (below_drew _))) hsm.loft).mono ?_
      rintro e w1 ⟨lv, rfl, hfr, hb1⟩
      refine ⟨_, rfl, ?_⟩
      simp only [LoftV.cs]
      refine hK.out _ _ ⟨lift hb1 s0, lift hb1 s1, lift hb1 s2, lift hb1 s3, lift hb1 s4, lift hb1 s5, lift hb1 s6, lift hb1 s7⟩ (fun hHeld => ?_)
      clear hK K s0 s1 s2 s3 s4 s5 s6 s7
      obtain ⟨s0, s1, s2, s3, s4, s5, s6, s7⟩ := hHeld
      refine norm_ (a' := ?_) ?_ ?_
      rotate_left
      · show Act.put _ (some 9) _ = _
        simp only [Act.put, List.setIfInBounds_toArray, List.set_cons_zero, List.set_cons_succ, i64_w, i32_w]
        rfl
      refine pure_ (i := 7) (N := some 14) (v := ?_) (a' := ?_) #[true, true, true, true, true, true, true, true, false, false] rfl rfl (by kernel_rfl) (fun _ _ _ h => h) (Or.inl ⟨by rfl, ?_⟩) ?_ ?_
      rotate_left
      · intro w'
        go_simp
        with_reducible rfl
      rotate_left
      · simp only [Act.put, List.setIfInBounds_toArray, List.set_cons_zero, List.set_cons_succ, i64_w, i32_w]
        rfl
      refine one_ (i := 8) (N := some 3) #[true, true, true, true, true, true, true, true, true, false] rfl rfl (by kernel_rfl) (by decide) (fun K hK => ?_)
      refine value_ (w1 := ?_) (v := ?_) (by rfl) rfl ?_ ?_
      rotate_left 2
      · go_simp
        constructor
        · rfl
        · rfl
      refine hK.out _ _ ⟨lift (below_box _ _) s0, lift (below_box _ _) s1, lift (below_box _ _) s2, lift (below_box _ _) s3, lift (below_box _ _) s4, lift (below_box _ _) s5, lift (below_box _ _) s6, lift (below_box _ _) s7⟩ (fun hHeld => ?_)
      clear hK K s0 s1 s2 s3 s4 s5 s6 s7
      obtain ⟨s0, s1, s2, s3, s4, s5, s6, s7⟩ := hHeld
      refine norm_ (a' := ?_) ?_ ?_
      rotate_left
      · show Act.put _ (some 3) _ = _
        simp only [Act.put, List.setIfInBounds_toArray, List.set_cons_zero, List.set_cons_succ, i64_w, i32_w]
        rfl
      exact norm_ (by simp only [putAll, Act.put, List.setIfInBounds_toArray, List.set_cons_zero, List.set_cons_succ]) (hCont (lv, w1.heap.size) _ ⟨⟨Box.new _ _ _, (hfr.off (fun k hk => by have := hb1.size; have := hw1.size; simp only [World.size_drew] at *; omega)).below (below_box _ _), below_on (below_on (below_drew _) hb1) (below_box _ _), by have := hb1.size; simpa using this⟩, s0, s1, s2, s3, s4, s5, s6, s7⟩)
    · skip
      refine value_ (w1 := ?_) (v := ?_) (by rfl) rfl ?_ ?_
      rotate_left 2
      · go_simp
        constructor
        · rfl
        · rfl
      refine hK.out _ _ ⟨lift (below_box _ _) s0, lift (below_box _ _) s1, lift (below_box _ _) s2, lift (below_box _ _) s3, lift (below_box _ _) s4, lift (below_box _ _) s5, lift (below_box _ _) s6, lift (below_box _ _) s7⟩ (fun hHeld => ?_)
      clear hK K s0 s1 s2 s3 s4 s5 s6 s7
      obtain ⟨s0, s1, s2, s3, s4, s5, s6, s7⟩ := hHeld
      refine norm_ (a' := ?_) ?_ ?_
      rotate_left
      · show Act.put _ (some 3) _ = _
        simp only [Act.put, List.setIfInBounds_toArray, List.set_cons_zero, List.set_cons_succ, i64_w, i32_w]
        rfl
      refine one_ (i := 2) (N := some 9) #[true, true, true, true, true, true, true, false, true, false] rfl rfl (by kernel_rfl) (by decide) (fun K hK => ?_)
      refine goes_ Tryz.func51 (by kernel_rfl) rfl #[.agg v.loft.cs] (by rfl) rfl rfl (by (try simp only [List.map_toArray, List.map_cons, List.map_nil]); first | done | rfl) ?_
      refine (LoftS_any v.loft m.loft _ (h.loft.below (below_on (below_on hw1 (below_drew _)) (below_box _ _))) hsm.loft).mono ?_
      rintro e w1 ⟨lv, rfl, hfr, hb1⟩
      refine ⟨_, rfl, ?_⟩
      simp only [LoftV.cs]
      refine hK.out _ _ ⟨lift hb1 s0, lift hb1 s1, lift hb1 s2, lift hb1 s3, lift hb1 s4, lift hb1 s5, lift hb1 s6, lift hb1 s7⟩ (fun hHeld => ?_)
      clear hK K s0 s1 s2 s3 s4 s5 s6 s7
      obtain ⟨s0, s1, s2, s3, s4, s5, s6, s7⟩ := hHeld
      refine norm_ (a' := ?_) ?_ ?_
      rotate_left
      · show Act.put _ (some 9) _ = _
        simp only [Act.put, List.setIfInBounds_toArray, List.set_cons_zero, List.set_cons_succ, i64_w, i32_w]
        rfl
      refine pure_ (i := 7) (N := some 14) (v := ?_) (a' := ?_) #[true, true, true, true, true, true, true, true, true, false] rfl rfl (by kernel_rfl) (fun _ _ _ h => h) (Or.inl ⟨by rfl, ?_⟩) ?_ ?_
      rotate_left
      · intro w'
        go_simp
        with_reducible rfl
      rotate_left
      · simp only [Act.put, List.setIfInBounds_toArray, List.set_cons_zero, List.set_cons_succ, i64_w, i32_w]
        rfl
      exact norm_ (by simp only [putAll, Act.put, List.setIfInBounds_toArray, List.set_cons_zero, List.set_cons_succ]) (hCont (lv, W1.heap.size) _ ⟨⟨(Box.new W1.drew _ _).lift hb1, hfr.off (fun k hk => by have := hb1.size; have := hw1.size; simp only [World.size_drew, World.size_alloc] at *; omega), below_on (below_on (below_drew _) (below_box _ _)) hb1, by simp⟩, s0, s1, s2, s3, s4, s5, s6, s7⟩)
  clear s0 s1 s2 s3 s4 s5 s6 s7
  rintro ⟨lv, B⟩ w5 ⟨⟨BB, hop, hb5, hB⟩, s0, s1, s2, s3, s4, s5, s6, s7⟩
  refine norm_ (a' := ?_) ?_ ?_
  rotate_left
  · simp only [putAll, Act.put, List.setIfInBounds_toArray, List.set_cons_zero, List.set_cons_succ]
    rfl
  refine last_ (i := 9) (N := none) #[true, true, true, true, true, true, true, true, true, true] rfl rfl (by kernel_rfl) (by decide) (fun K hK => ?_)
  have kf0 := BB.free 0
  have kc0 := BB.cell 0 (.int .i64 0) rfl
  have kf1 := BB.free 1
  have kc1 := BB.cell 1 (.slice none 0 0) rfl
  have kf2 := BB.free 2
  have kc2 := BB.cell 2 (.slice none 0 0) rfl
  have kf3 := BB.free 3
  have kc3 := BB.cell 3 (.slice none 0 0) rfl
  have kf4 := BB.free 4
  have kc4 := BB.cell 4 (.slice none 0 0) rfl
  have kf5 := BB.free 5
  have kc5 := BB.cell 5 (.slice none 0 0) rfl
  have kf6 := BB.free 6
  have kc6 := BB.cell 6 (.slice none 0 0) rfl
  have kf7 := BB.free 7
  have kc7 := BB.cell 7 (.slice none 0 0) rfl
  have kf8 := BB.free 8
  have kc8 := BB.cell 8 (.int .i64 0) rfl
  have kf9 := BB.free 9
  have kc9 := BB.cell 9 (.int .i64 0) rfl
  have kf10 := BB.free 10
  have kc10 := BB.cell 10 (.slice none 0 0) rfl
  refine skip_ (w1 := ?_) (by rfl) rfl ?_ ?_
  rotate_left
  · go_simp
    rfl
  refine hK.out _ _ ?_
  clear hK K
  clear s0 s1 s2 s3 s4 s5 s6 s7
  refine done_ (by kernel_rfl) ?_
  obtain ⟨W2, hW2⟩ : ∃ W2, (((((((((((w5.setCell ⟨B, 0, none⟩ (.int .i64 lv.last)).setCell ⟨B, 1, none⟩ (.slice lv.air.a lv.air.n lv.air.c)).setCell ⟨B, 2, none⟩ (.slice lv.shelves.a lv.shelves.n lv.shelves.c)).setCell ⟨B, 3, none⟩ (.slice lv.cakes.a lv.cakes.n lv.cakes.c)).setCell ⟨B, 4, none⟩ (.slice lv.put.a lv.put.n lv.put.c)).setCell ⟨B, 5, none⟩ (.slice lv.weights.a lv.weights.n lv.weights.c)).setCell ⟨B, 6, none⟩ (.slice none 0 0)).setCell ⟨B, 7, none⟩ (.slice none 0 0)).setCell ⟨B, 8, none⟩ (.int .i64 v.step)).setCell ⟨B, 9, none⟩ (.int .i64 v.lots)).setCell ⟨B, 10, none⟩ (.slice none 0 0)) = W2 := ⟨_, rfl⟩
  rw [hW2]
  have B7 := BB.set 0 (.int .i64 lv.last)
  simp only [List.setIfInBounds_toArray, List.set_cons_zero, List.set_cons_succ] at B7
  have B7 := B7.set 1 (.slice lv.air.a lv.air.n lv.air.c)
  simp only [List.setIfInBounds_toArray, List.set_cons_zero, List.set_cons_succ] at B7
  have B7 := B7.set 2 (.slice lv.shelves.a lv.shelves.n lv.shelves.c)
  simp only [List.setIfInBounds_toArray, List.set_cons_zero, List.set_cons_succ] at B7
  have B7 := B7.set 3 (.slice lv.cakes.a lv.cakes.n lv.cakes.c)
  simp only [List.setIfInBounds_toArray, List.set_cons_zero, List.set_cons_succ] at B7
  have B7 := B7.set 4 (.slice lv.put.a lv.put.n lv.put.c)
  simp only [List.setIfInBounds_toArray, List.set_cons_zero, List.set_cons_succ] at B7
  have B7 := B7.set 5 (.slice lv.weights.a lv.weights.n lv.weights.c)
  simp only [List.setIfInBounds_toArray, List.set_cons_zero, List.set_cons_succ] at B7
  have B7 := B7.set 6 (.slice none 0 0)
  simp only [List.setIfInBounds_toArray, List.set_cons_zero, List.set_cons_succ] at B7
  have B7 := B7.set 7 (.slice none 0 0)
  simp only [List.setIfInBounds_toArray, List.set_cons_zero, List.set_cons_succ] at B7
  have B7 := B7.set 8 (.int .i64 v.step)
  simp only [List.setIfInBounds_toArray, List.set_cons_zero, List.set_cons_succ] at B7
  have B7 := B7.set 9 (.int .i64 v.lots)
  simp only [List.setIfInBounds_toArray, List.set_cons_zero, List.set_cons_succ] at B7
  have B7 := B7.set 10 (.slice none 0 0)
  simp only [List.setIfInBounds_toArray, List.set_cons_zero, List.set_cons_succ] at B7
  rw [hW2] at B7
  have BB2 : Box W2 B #[.int .i64 lv.last, .slice lv.air.a lv.air.n lv.air.c, .slice lv.shelves.a lv.shelves.n lv.shelves.c, .slice lv.cakes.a lv.cakes.n lv.cakes.c, .slice lv.put.a lv.put.n lv.put.c, .slice lv.weights.a lv.weights.n lv.weights.c, .slice none 0 0, .slice none 0 0, .int .i64 v.step, .int .i64 v.lots, .slice none 0 0] 49 := B7
  clear B7
  have hg25 : w5.grownBy W2 (some B) := by
    rw [← hW2]
    exact grown_set (grown_set (grown_set (grown_set (grown_set (grown_set (grown_set (grown_set (grown_set (grown_set (grown_set (grown_rfl _ _) _) _) _) _) _) _) _) _) _) _) _
  have hsz1 := hw1.size
  have hsz0 := hW0.size
  have hsz5 := hb5.size
  have hs01 : w.heap.size < W0.heap.size := BX.lt
  have hs11 : W0.heap.size < W1.heap.size := BR.lt
  have hbB2 := BB2.lt
  have hwB : w.heap.size ≤ B := by omega
  have o4 := hop.gr hg25
  have BX2 := (BX1.lift hb5).grown hg25 (fun e => by injection e with e; omega)
  have BR2 := (BR.lift hb5).grown hg25 (fun e => by injection e with e; omega)
  have hwS2 : Below w.heap.size w W2 := (below_on hw1 hb5).grown hg25 (below_on hw1 hb5).size (fun k e => by injection e with e; omega)
  clear hg25 hW2 hop BB BX1 BR hb5 c0 c1 c2 c3 c4 c5 c6 c7 c8 c9 c10 kf0 kc0 kf1 kc1 kf2 kc2 kf3 kc3 kf4 kc4 kf5 kc5 kf6 kc6 kf7 kc7 kf8 kc8 kf9 kc9 kf10 kc10
  go_wp2
  obtain ⟨i1, hi1, hz10, hz11, hz12⟩ := info_parts info149
  have HI := Lib.hid hi1
  have HZ0 := Lib.hid hz10
  have HZ1 := Lib.hid hz11
  have HZ2 := Lib.hid hz12
  clear hi1 hz10 hz11 hz12
  go_loopw [4] (fun i wr => ∃ q : Nat, ∃ vv : Value, q ≤ v.sales.n ∧ i = .int .i64 q ∧ Box wr B #[.int .i64 lv.last, .slice lv.air.a lv.air.n lv.air.c, .slice lv.shelves.a lv.shelves.n lv.shelves.c, .slice lv.cakes.a lv.cakes.n lv.cakes.c, .slice lv.put.a lv.put.n lv.put.c, .slice lv.weights.a lv.weights.n lv.weights.c, vv, .slice none 0 0, .int .i64 v.step, .int .i64 v.lots, .slice none 0 0] 49 ∧ wr.ownsRow W2.heap.size 149 3 vv q ((m.sales.take q).flatMap SaleD.cs) ∧ W2.grownBy wr (some B)) (fun i _ => v.sales.n - (intOf i).toNat)
  case atStart => exact ⟨0, _, Nat.zero_le _, rfl, BB2, by simpa using World.ownsRow_nil _ _ _ _, grown_rfl _ _⟩
  case round =>
    obtain ⟨q, vv, hq, rfl, BO, hown, hg⟩ := hrel
    have hw : Below w.heap.size w wr := hwS2.grown hg hwS2.size (fun k e => by injection e with e; omega)
    have hszr := hg.size
    have hbB1 := BO.lt
    have BL := BX2.grown hg (fun e => by injection e with e; omega)
    have c6 := BL.cell 6 (.slice v.sales.a v.sales.n v.sales.c) rfl
    by_cases hlt : q < v.sales.n
    · obtain ⟨x, hx⟩ := at_of_lt HLs.out hlt
      obtain ⟨b, o, ha, hbl, hc0, hc1, hc2⟩ := h.sales.sale_at hx
      have hc0 := lift hw hc0
      have hc1 := lift hw hc1
      have hc2 := lift hw hc2
      have HX := Lib.hid hx
      rw [ha] at c6
      clear hx ha
      have t0 := BO.cell 6 vv rfl
      have hml : q + 1 ≤ maxLen := by unfold maxLen; omega
      have HOWN := Lib.hid hown
      clear hown
      have a0 : vv.ownBlock ≠ some w.heap.size := own_ne HOWN.out (Or.inl (by omega))
      have aE : vv.ownBlock ≠ some b := own_ne HOWN.out (Or.inl (by omega))
      have aB : vv.ownBlock ≠ some B := own_ne HOWN.out (Or.inl (by omega))
      go_wp2
      refine start_ (n := 20) (S := fun w' => w'.cell? ⟨B, 6, none⟩ = some (vv) ∧ w'.cell? ⟨w.heap.size, 6, none⟩ = some (.slice (some ⟨b, o, none⟩) v.sales.n v.sales.c) ∧ w'.cell? ⟨b, o + q * 3, none⟩ = some (.int .i64 x.day) ∧ w'.cell? ⟨b, o + q * 3 + 1, none⟩ = some (.int .i64 x.price.lo) ∧ w'.cell? ⟨b, o + q * 3 + 2, none⟩ = some (.int .i64 x.price.hi)) (ds := [19]) #[false, false, false, false, false, false, false, false, false, false, false, false, false, false, false, false, false, false, false, false] (by kernel_rfl) rfl rfl ⟨t0, c6, hc0, hc1, hc2⟩ (fun hHeld => ?_)
      obtain ⟨s0, s1, s2, s3, s4⟩ := hHeld
      refine pure_ (i := 0) (N := some 22) (v := ?_) (a' := ?_) #[true, false, false, false, false, false, false, false, false, false, false, false, false, false, false, false, false, false, false, false] rfl rfl (by kernel_rfl) (fun _ _ _ h => h) (Or.inl ⟨by rfl, ?_⟩) ?_ ?_
      rotate_left
      · intro w'
        go_simp
        with_reducible rfl
      rotate_left
      · simp only [Act.put, List.setIfInBounds_toArray, List.set_cons_zero, List.set_cons_succ, i64_w, i32_w]
        rfl
      refine pure_ (i := 2) (N := some 24) (v := ?_) (a' := ?_) #[true, false, true, false, false, false, false, false, false, false, false, false, false, false, false, false, false, false, false, false] rfl rfl (by kernel_rfl) (fun _ _ _ h => h) (Or.inl ⟨by rfl, ?_⟩) ?_ ?_
      rotate_left
      · intro w'
        go_simp
        with_reducible rfl
      rotate_left
      · simp only [Act.put, List.setIfInBounds_toArray, List.set_cons_zero, List.set_cons_succ, i64_w, i32_w]
        rfl
      refine pure_ (i := 4) (N := some 26) (v := ?_) (a' := ?_) #[true, false, true, false, true, false, false, false, false, false, false, false, false, false, false, false, false, false, false, false] rfl rfl (by kernel_rfl) (fun _ _ _ h => h) (Or.inl ⟨by rfl, ?_⟩) ?_ ?_
      rotate_left
      · intro w'
        go_simp
        with_reducible rfl
      rotate_left
      · simp only [Act.put, List.setIfInBounds_toArray, List.set_cons_zero, List.set_cons_succ, i64_w, i32_w]
        rfl
      refine pure_ (i := 8) (N := some 30) (v := ?_) (a' := ?_) #[true, false, true, false, true, false, false, false, true, false, false, false, false, false, false, false, false, false, false, false] rfl rfl (by kernel_rfl) (fun _ _ _ h => h) (Or.inl ⟨by rfl, ?_⟩) ?_ ?_
      rotate_left
      · intro w'
        go_simp
        with_reducible rfl
      rotate_left
      · simp only [Act.put, List.setIfInBounds_toArray, List.set_cons_zero, List.set_cons_succ, i64_w, i32_w]
        rfl
      refine pure_ (i := 10) (N := some 32) (v := ?_) (a' := ?_) #[true, false, true, false, true, false, false, false, true, false, true, false, false, false, false, false, false, false, false, false] rfl rfl (by kernel_rfl) (fun _ _ _ h => h) (Or.inl ⟨by rfl, ?_⟩) ?_ ?_
      rotate_left
      · intro w'
        go_simp
        with_reducible rfl
      rotate_left
      · simp only [Act.put, List.setIfInBounds_toArray, List.set_cons_zero, List.set_cons_succ, i64_w, i32_w]
        rfl
      refine take_ (i := 1) (N := some 23) (v := ?_) (a' := ?_) #[true, true, true, false, true, false, false, false, true, false, true, false, false, false, false, false, false, false, false, false] rfl rfl (by kernel_rfl) (fun _ _ _ h => h) (Or.inl ⟨by rfl, ?_⟩) ⟨s0, s1, s2, s3, s4⟩ ?_ ?_
      rotate_left
      · rintro w' ⟨zs0, zs1, zs2, zs3, zs4⟩
        go_simp
        with_reducible rfl
      rotate_left
      · simp only [Act.put, List.setIfInBounds_toArray, List.set_cons_zero, List.set_cons_succ, i64_w, i32_w]
        rfl
      refine take_ (i := 3) (N := some 25) (v := ?_) (a' := ?_) #[true, true, true, true, true, false, false, false, true, false, true, false, false, false, false, false, false, false, false, false] rfl rfl (by kernel_rfl) (fun _ _ _ h => h) (Or.inl ⟨by rfl, ?_⟩) ⟨s0, s1, s2, s3, s4⟩ ?_ ?_
      rotate_left
      · rintro w' ⟨zs0, zs1, zs2, zs3, zs4⟩
        go_simp
        with_reducible rfl
      rotate_left
      · simp only [Act.put, List.setIfInBounds_toArray, List.set_cons_zero, List.set_cons_succ, i64_w, i32_w]
        rfl
      refine pure_ (i := 5) (N := some 27) (v := ?_) (a' := ?_) #[true, true, true, true, true, true, false, false, true, false, true, false, false, false, false, false, false, false, false, false] rfl rfl (by kernel_rfl) (fun _ _ _ h => h) (Or.inl ⟨by rfl, ?_⟩) ?_ ?_
      rotate_left
      · intro w'
        go_simp
        with_reducible rfl
      rotate_left
      · simp only [Act.put, List.setIfInBounds_toArray, List.set_cons_zero, List.set_cons_succ, i64_w, i32_w]
        rfl
      refine pure_ (i := 6) (N := some 28) (v := ?_) (a' := ?_) #[true, true, true, true, true, true, true, false, true, false, true, false, false, false, false, false, false, false, false, false] rfl rfl (by kernel_rfl) (fun _ _ _ h => h) (Or.inl ⟨by rfl, ?_⟩) ?_ ?_
      rotate_left
      · intro w'
        go_simp
        with_reducible rfl
      rotate_left
      · simp only [Act.put, List.setIfInBounds_toArray, List.set_cons_zero, List.set_cons_succ, i64_w, i32_w]
        rfl
      refine take_ (i := 7) (N := some 29) (v := ?_) (a' := ?_) #[true, true, true, true, true, true, true, true, true, false, true, false, false, false, false, false, false, false, false, false] rfl rfl (by kernel_rfl) (fun _ _ _ h => h) (Or.inl ⟨by rfl, ?_⟩) ⟨s0, s1, s2, s3, s4⟩ ?_ ?_
      rotate_left
      · rintro w' ⟨zs0, zs1, zs2, zs3, zs4⟩
        go_simp
        with_reducible rfl
      rotate_left
      · simp only [Act.put, List.setIfInBounds_toArray, List.set_cons_zero, List.set_cons_succ, i64_w, i32_w]
        rfl
      refine take_ (i := 9) (N := some 31) (v := ?_) (a' := ?_) #[true, true, true, true, true, true, true, true, true, true, true, false, false, false, false, false, false, false, false, false] rfl rfl (by kernel_rfl) (fun _ _ _ h => h) (Or.inl ⟨by rfl, ?_⟩) ⟨s0, s1, s2, s3, s4⟩ ?_ ?_
      rotate_left
      · rintro w' ⟨zs0, zs1, zs2, zs3, zs4⟩
        go_simp
        with_reducible rfl
      rotate_left
      · simp only [Act.put, List.setIfInBounds_toArray, List.set_cons_zero, List.set_cons_succ, i64_w, i32_w]
        rfl
      refine pure_ (i := 11) (N := some 33) (v := ?_) (a' := ?_) #[true, true, true, true, true, true, true, true, true, true, true, true, false, false, false, false, false, false, false, false] rfl rfl (by kernel_rfl) (fun _ _ _ h => h) (Or.inl ⟨by rfl, ?_⟩) ?_ ?_
      rotate_left
      · intro w'
        go_simp
        with_reducible rfl
      rotate_left
      · simp only [Act.put, List.setIfInBounds_toArray, List.set_cons_zero, List.set_cons_succ, i64_w, i32_w]
        rfl
      refine pure_ (i := 12) (N := some 34) (v := ?_) (a' := ?_) #[true, true, true, true, true, true, true, true, true, true, true, true, true, false, false, false, false, false, false, false] rfl rfl (by kernel_rfl) (fun _ _ _ h => h) (Or.inl ⟨by rfl, ?_⟩) ?_ ?_
      rotate_left
      · intro w'
        go_simp
        with_reducible rfl
      rotate_left
      · simp only [Act.put, List.setIfInBounds_toArray, List.set_cons_zero, List.set_cons_succ, i64_w, i32_w]
        rfl
      refine take_ (i := 13) (N := some 35) (v := ?_) (a' := ?_) #[true, true, true, true, true, true, true, true, true, true, true, true, true, true, false, false, false, false, false, false] rfl rfl (by kernel_rfl) (fun _ _ _ h => h) (Or.inl ⟨by rfl, ?_⟩) ⟨s0, s1, s2, s3, s4⟩ ?_ ?_
      rotate_left
      · rintro w' ⟨zs0, zs1, zs2, zs3, zs4⟩
        go_simp
        with_reducible rfl
      rotate_left
      · simp only [Act.put, List.setIfInBounds_toArray, List.set_cons_zero, List.set_cons_succ, i64_w, i32_w]
        rfl
      refine one_ (i := 14) (N := some 36) #[true, true, true, true, true, true, true, true, true, true, true, true, true, true, true, false, false, false, false, false] rfl rfl (by kernel_rfl) (by decide) (fun K hK => ?_)
      refine goes_ Tryz.func33 (by kernel_rfl) rfl #[.agg #[.int .i64 x.price.lo, .int .i64 x.price.hi]] (by rfl) rfl rfl (by (try simp only [List.map_toArray, List.map_cons, List.map_nil]); first | done | rfl) ?_
      refine (to10_any _ _ _).mono ?_
      rintro e w1 ⟨rfl, hb1⟩
      refine ⟨_, rfl, ?_⟩
      have hownC := own_below (own_below HOWN.out (below_drew _)) hb1
      have hltv := HOWN.out.lt
      have hgC := grown_up (grown_up hg (below_drew _)) hb1
      have BOC := (BO.lift (below_drew _)).lift hb1
      have hs1 := hb1.size
      simp only [World.size_drew] at hs1
      refine hK.out _ _ ⟨lift hb1 s0, lift hb1 s1, lift hb1 s2, lift hb1 s3, lift hb1 s4⟩ (fun hHeld => ?_)
      clear hK K s0 s1 s2 s3 s4
      obtain ⟨s0, s1, s2, s3, s4⟩ := hHeld
      refine norm_ (a' := ?_) ?_ ?_
      rotate_left
      · show Act.put _ (some 36) _ = _
        simp only [Act.put, List.setIfInBounds_toArray, List.set_cons_zero, List.set_cons_succ, i64_w, i32_w]
        rfl
      refine pure_ (i := 15) (N := some 37) (v := ?_) (a' := ?_) #[true, true, true, true, true, true, true, true, true, true, true, true, true, true, true, true, false, false, false, false] rfl rfl (by kernel_rfl) (fun _ _ _ h => h) (Or.inl ⟨by rfl, ?_⟩) ?_ ?_
      rotate_left
      · intro w'
        go_simp
        with_reducible rfl
      rotate_left
      · simp only [Act.put, List.setIfInBounds_toArray, List.set_cons_zero, List.set_cons_succ, i64_w, i32_w]
        rfl
      refine one_ (i := 16) (N := some 38) #[true, true, true, true, true, true, true, true, true, true, true, true, true, true, true, true, true, false, false, false] rfl rfl (by kernel_rfl) (by decide) (fun K hK => ?_)
      refine value_ (w1 := ?_) (v := ?_) (by rfl) rfl ?_ ?_
      rotate_left 2
      · go_simp
        constructor
        · rfl
        · rfl
      refine hK.out _ _ ⟨lift (below_box _ _) s0, lift (below_box _ _) s1, lift (below_box _ _) s2, lift (below_box _ _) s3, lift (below_box _ _) s4⟩ (fun hHeld => ?_)
      clear hK K s0 s1 s2 s3 s4
      obtain ⟨s0, s1, s2, s3, s4⟩ := hHeld
      refine norm_ (a' := ?_) ?_ ?_
      rotate_left
      · show Act.put _ (some 38) _ = _
        simp only [Act.put, List.setIfInBounds_toArray, List.set_cons_zero, List.set_cons_succ, i64_w, i32_w]
        rfl
      refine one_ (i := 17) (N := some 39) #[true, true, true, true, true, true, true, true, true, true, true, true, true, true, true, true, true, true, false, false] rfl rfl (by kernel_rfl) (by decide) (fun K hK => ?_)
      refine step_append_lies _ (by rfl) _ _ _ (by rfl) W2.heap.size 149 i1 _ 3 24 Tryz.underlying45 HI.out HZ0.out HZ1.out HZ2.out rfl (by omega) vv q ((m.sales.take q).flatMap SaleD.cs) (by rfl) (hownC.alloc _) ⟨w1.heap.size, 0, none⟩ 1 1 [.int .i64 x.day, .int .i64 x.price.lo, .int .i64 x.price.hi] (by rfl) (by rfl) (World.news_of_block (cs := #[.int .i64 x.day, .int .i64 x.price.lo, .int .i64 x.price.hi]) (t := 149) (fr := (0, 0)) (heap_alloc_new w1 _)) (by simp [Value.oneCell']) (by omega) hml (by omega) (by simp; omega) (w1.heap.size + 1) (by simp) ?_
      intro gg cap w2 hown2 hgrow hat hlt2
      have hgD := grown_far (grown_up hgC (below_box _ _)) hgrow (fun r e => (hltv r e).1)
      have BOD := (BOC.lift (below_box _ _)).grown hgrow aB
      refine hK.out _ _ ⟨lift_grown hgrow s0 aB, lift_grown hgrow s1 a0, lift_grown hgrow s2 aE, lift_grown hgrow s3 aE, lift_grown hgrow s4 aE⟩ (fun hHeld => ?_)
      clear hK K s0 s1 s2 s3 s4
      obtain ⟨s0, s1, s2, s3, s4⟩ := hHeld
      refine norm_ (a' := ?_) ?_ ?_
      rotate_left
      · show Act.put _ (some 39) _ = _
        simp only [Act.put, List.setIfInBounds_toArray, List.set_cons_zero, List.set_cons_succ, i64_w, i32_w]
        rfl
      refine pure_ (i := 18) (N := some 40) (v := ?_) (a' := ?_) #[true, true, true, true, true, true, true, true, true, true, true, true, true, true, true, true, true, true, true, false] rfl rfl (by kernel_rfl) (fun _ _ _ h => h) (Or.inl ⟨by rfl, ?_⟩) ?_ ?_
      rotate_left
      · intro w'
        go_simp
        with_reducible rfl
      rotate_left
      · simp only [Act.put, List.setIfInBounds_toArray, List.set_cons_zero, List.set_cons_succ, i64_w, i32_w]
        rfl
      refine last_ (i := 19) (N := none) #[true, true, true, true, true, true, true, true, true, true, true, true, true, true, true, true, true, true, true, true] rfl rfl (by kernel_rfl) (by decide) (fun K hK => ?_)
      have hst := BOD.cell 6 vv rfl
      have hsf := BOD.free 6
      refine skip_ (w1 := ?_) (by rfl) rfl ?_ ?_
      rotate_left
      · go_simp
        rfl
      refine hK.out _ _ ?_
      clear hK K
      clear s0 s1 s2 s3 s4
      refine done_ (by kernel_rfl) ?_
      go_wp2
      go_roundw
      case measure => simp [intOf]; omega
      case rel =>
        refine ⟨q + 1, _, by omega, by go_num, BOD.set 6 _, ?_, grown_set hgD _⟩
        rw [List.take_add_one, HX.out]
        simp only [List.flatMap_append, Option.toList, List.flatMap_cons, List.flatMap_nil, List.append_nil]
        exact own_far hown2 (fun e => by
          have h1 := (hown2.lt B e).1
          omega) _
    · obtain rfl : q = v.sales.n := by omega
      rw [take_len HLs.out] at hown
      obtain ⟨s1, rfl, hn1, hsb1, hfr1⟩ := own_fr (f := SaleD.cs) (fun _ => rfl) HLs.out (by omega) hown
      have o1x := hfr1.off (S := fun k => k = B ∨ k < W1.heap.size) (fun k hk => by have := hwS2.size; omega)
      clear hfr1 hsb1
      have o4 := o4.gr hg
      have BX1w := BL
      have BR1w := BR2.grown hg (fun e => by injection e with e; omega)
      have hwS1w := hw
      have BB1w := BO
      obtain ⟨W1w, rfl⟩ : ∃ W : World, W = wr := ⟨_, rfl⟩
      have hbBw := BB1w.lt
      clear hn1 BL BO hown hg hw hwS2 BX2 BR2 BB2 HI HZ0 HZ1 HZ2
      go_wp2
      obtain ⟨i2, hi2, hz20, hz21, hz22⟩ := info_parts info150
      have HI := Lib.hid hi2
      have HZ0 := Lib.hid hz20
      have HZ1 := Lib.hid hz21
      have HZ2 := Lib.hid hz22
      clear hi2 hz20 hz21 hz22
      go_loopw [5] (fun i wr => ∃ q : Nat, ∃ vv : Value, q ≤ v.chests.n ∧ i = .int .i64 q ∧ Box wr B #[.int .i64 lv.last, .slice lv.air.a lv.air.n lv.air.c, .slice lv.shelves.a lv.shelves.n lv.shelves.c, .slice lv.cakes.a lv.cakes.n lv.cakes.c, .slice lv.put.a lv.put.n lv.put.c, .slice lv.weights.a lv.weights.n lv.weights.c, .slice s1.a s1.n s1.c, vv, .int .i64 v.step, .int .i64 v.lots, .slice none 0 0] 49 ∧ Acc chestR (fun k => k = B ∨ k < W1.heap.size) 150 2 W1w.heap.size wr vv (m.chests.take q) ∧ W1w.grownBy wr (some B)) (fun i _ => v.chests.n - (intOf i).toNat)
      case atStart => exact ⟨0, _, Nat.zero_le _, rfl, BB1w, by simpa using Acc.nil _, grown_rfl _ _⟩
      case round =>
        obtain ⟨q, vv, hq, rfl, BO, hown, hg⟩ := hrel
        have hw : Below w.heap.size w wr := hwS1w.grown hg hwS1w.size (fun k e => by injection e with e; omega)
        have hszr := hg.size
        have hbB2 := BO.lt
        have BL := BX1w.grown hg (fun e => by injection e with e; omega)
        have c7 := BL.cell 7 (.slice v.chests.a v.chests.n v.chests.c) rfl
        by_cases hlt : q < v.chests.n
        · obtain ⟨x, hx⟩ := at_of_lt HLc.out hlt
          obtain ⟨b, o, ⟨ta, tn, tc⟩, ha, hbl, hc0, hc1, hrd⟩ := h.chests.chest_at hx
          simp only at hc0
          have htn : tn ≤ 100 := by
            have h1 := hsm.cakes x (List.mem_of_getElem? hx)
            have h2 : x.cakes.length = tn := hrd.len
            omega
          have hc0 := lift hw hc0
          have hc1 := lift hw hc1
          have HX := Lib.hid hx
          rw [ha] at c7
          clear hx ha
          have t0 := BO.cell 7 vv rfl
          have hml : q + 1 ≤ maxLen := by unfold maxLen; omega
          have HOWN := Lib.hid hown
          clear hown
          have a0 : vv.ownBlock ≠ some w.heap.size := HOWN.out.ne (Or.inl (by omega))
          have aE : vv.ownBlock ≠ some b := HOWN.out.ne (Or.inl (by omega))
          have aB : vv.ownBlock ≠ some B := HOWN.out.ne (Or.inl (by omega))
          go_wp2
          refine start_ (n := 20) (S := fun w' => w'.cell? ⟨B, 7, none⟩ = some (vv) ∧ w'.cell? ⟨w.heap.size, 7, none⟩ = some (.slice (some ⟨b, o, none⟩) v.chests.n v.chests.c) ∧ w'.cell? ⟨b, o + q * 2, none⟩ = some (.slice ta tn tc) ∧ w'.cell? ⟨b, o + q * 2 + 1, none⟩ = some (.int .i64 x.reserve)) (ds := [19]) #[false, false, false, false, false, false, false, false, false, false, false, false, false, false, false, false, false, false, false, false] (by kernel_rfl) rfl rfl ⟨t0, c7, hc0, hc1⟩ (fun hHeld => ?_)
          obtain ⟨s0, s1, s2, s3⟩ := hHeld
          refine pure_ (i := 0) (N := some 48) (v := ?_) (a' := ?_) #[true, false, false, false, false, false, false, false, false, false, false, false, false, false, false, false, false, false, false, false] rfl rfl (by kernel_rfl) (fun _ _ _ h => h) (Or.inl ⟨by rfl, ?_⟩) ?_ ?_
          rotate_left
          · intro w'
            go_simp
            with_reducible rfl
          rotate_left
          · simp only [Act.put, List.setIfInBounds_toArray, List.set_cons_zero, List.set_cons_succ, i64_w, i32_w]
            rfl
          refine pure_ (i := 2) (N := some 50) (v := ?_) (a' := ?_) #[true, false, true, false, false, false, false, false, false, false, false, false, false, false, false, false, false, false, false, false] rfl rfl (by kernel_rfl) (fun _ _ _ h => h) (Or.inl ⟨by rfl, ?_⟩) ?_ ?_
          rotate_left
          · intro w'
            go_simp
            with_reducible rfl
          rotate_left
          · simp only [Act.put, List.setIfInBounds_toArray, List.set_cons_zero, List.set_cons_succ, i64_w, i32_w]
            rfl
          refine pure_ (i := 4) (N := some 52) (v := ?_) (a' := ?_) #[true, false, true, false, true, false, false, false, false, false, false, false, false, false, false, false, false, false, false, false] rfl rfl (by kernel_rfl) (fun _ _ _ h => h) (Or.inl ⟨by rfl, ?_⟩) ?_ ?_
          rotate_left
          · intro w'
            go_simp
            with_reducible rfl
          rotate_left
          · simp only [Act.put, List.setIfInBounds_toArray, List.set_cons_zero, List.set_cons_succ, i64_w, i32_w]
            rfl
          refine pure_ (i := 9) (N := some 57) (v := ?_) (a' := ?_) #[true, false, true, false, true, false, false, false, false, true, false, false, false, false, false, false, false, false, false, false] rfl rfl (by kernel_rfl) (fun _ _ _ h => h) (Or.inl ⟨by rfl, ?_⟩) ?_ ?_
          rotate_left
          · intro w'
            go_simp
            with_reducible rfl
          rotate_left
          · simp only [Act.put, List.setIfInBounds_toArray, List.set_cons_zero, List.set_cons_succ, i64_w, i32_w]
            rfl
          refine pure_ (i := 11) (N := some 59) (v := ?_) (a' := ?_) #[true, false, true, false, true, false, false, false, false, true, false, true, false, false, false, false, false, false, false, false] rfl rfl (by kernel_rfl) (fun _ _ _ h => h) (Or.inl ⟨by rfl, ?_⟩) ?_ ?_
          rotate_left
          · intro w'
            go_simp
            with_reducible rfl
          rotate_left
          · simp only [Act.put, List.setIfInBounds_toArray, List.set_cons_zero, List.set_cons_succ, i64_w, i32_w]
            rfl
          refine take_ (i := 1) (N := some 49) (v := ?_) (a' := ?_) #[true, true, true, false, true, false, false, false, false, true, false, true, false, false, false, false, false, false, false, false] rfl rfl (by kernel_rfl) (fun _ _ _ h => h) (Or.inl ⟨by rfl, ?_⟩) ⟨s0, s1, s2, s3⟩ ?_ ?_
          rotate_left
          · rintro w' ⟨zs0, zs1, zs2, zs3⟩
            go_simp
            with_reducible rfl
          rotate_left
          · simp only [Act.put, List.setIfInBounds_toArray, List.set_cons_zero, List.set_cons_succ, i64_w, i32_w]
            rfl
          refine take_ (i := 3) (N := some 51) (v := ?_) (a' := ?_) #[true, true, true, true, true, false, false, false, false, true, false, true, false, false, false, false, false, false, false, false] rfl rfl (by kernel_rfl) (fun _ _ _ h => h) (Or.inl ⟨by rfl, ?_⟩) ⟨s0, s1, s2, s3⟩ ?_ ?_
          rotate_left
          · rintro w' ⟨zs0, zs1, zs2, zs3⟩
            go_simp
            with_reducible rfl
          rotate_left
          · simp only [Act.put, List.setIfInBounds_toArray, List.set_cons_zero, List.set_cons_succ, i64_w, i32_w]
            rfl
          refine pure_ (i := 5) (N := some 53) (v := ?_) (a' := ?_) #[true, true, true, true, true, true, false, false, false, true, false, true, false, false, false, false, false, false, false, false] rfl rfl (by kernel_rfl) (fun _ _ _ h => h) (Or.inl ⟨by rfl, ?_⟩) ?_ ?_
          rotate_left
          · intro w'
            go_simp
            with_reducible rfl
          rotate_left
          · simp only [Act.put, List.setIfInBounds_toArray, List.set_cons_zero, List.set_cons_succ, i64_w, i32_w]
            rfl
          refine pure_ (i := 6) (N := some 54) (v := ?_) (a' := ?_) #[true, true, true, true, true, true, true, false, false, true, false, true, false, false, false, false, false, false, false, false] rfl rfl (by kernel_rfl) (fun _ _ _ h => h) (Or.inl ⟨by rfl, ?_⟩) ?_ ?_
          rotate_left
          · intro w'
            go_simp
            with_reducible rfl
          rotate_left
          · simp only [Act.put, List.setIfInBounds_toArray, List.set_cons_zero, List.set_cons_succ, i64_w, i32_w]
            rfl
          refine take_ (i := 7) (N := some 55) (v := ?_) (a' := ?_) #[true, true, true, true, true, true, true, true, false, true, false, true, false, false, false, false, false, false, false, false] rfl rfl (by kernel_rfl) (fun _ _ _ h => h) (Or.inl ⟨by rfl, ?_⟩) ⟨s0, s1, s2, s3⟩ ?_ ?_
          rotate_left
          · rintro w' ⟨zs0, zs1, zs2, zs3⟩
            go_simp
            with_reducible rfl
          rotate_left
          · simp only [Act.put, List.setIfInBounds_toArray, List.set_cons_zero, List.set_cons_succ, i64_w, i32_w]
            rfl
          refine take_ (i := 10) (N := some 58) (v := ?_) (a' := ?_) #[true, true, true, true, true, true, true, true, false, true, true, true, false, false, false, false, false, false, false, false] rfl rfl (by kernel_rfl) (fun _ _ _ h => h) (Or.inl ⟨by rfl, ?_⟩) ⟨s0, s1, s2, s3⟩ ?_ ?_
          rotate_left
          · rintro w' ⟨zs0, zs1, zs2, zs3⟩
            go_simp
            with_reducible rfl
          rotate_left
          · simp only [Act.put, List.setIfInBounds_toArray, List.set_cons_zero, List.set_cons_succ, i64_w, i32_w]
            rfl
          refine pure_ (i := 12) (N := some 60) (v := ?_) (a' := ?_) #[true, true, true, true, true, true, true, true, false, true, true, true, true, false, false, false, false, false, false, false] rfl rfl (by kernel_rfl) (fun _ _ _ h => h) (Or.inl ⟨by rfl, ?_⟩) ?_ ?_
          rotate_left
          · intro w'
            go_simp
            with_reducible rfl
          rotate_left
          · simp only [Act.put, List.setIfInBounds_toArray, List.set_cons_zero, List.set_cons_succ, i64_w, i32_w]
            rfl
          refine pure_ (i := 13) (N := some 61) (v := ?_) (a' := ?_) #[true, true, true, true, true, true, true, true, false, true, true, true, true, true, false, false, false, false, false, false] rfl rfl (by kernel_rfl) (fun _ _ _ h => h) (Or.inl ⟨by rfl, ?_⟩) ?_ ?_
          rotate_left
          · intro w'
            go_simp
            with_reducible rfl
          rotate_left
          · simp only [Act.put, List.setIfInBounds_toArray, List.set_cons_zero, List.set_cons_succ, i64_w, i32_w]
            rfl
          refine take_ (i := 14) (N := some 62) (v := ?_) (a' := ?_) #[true, true, true, true, true, true, true, true, false, true, true, true, true, true, true, false, false, false, false, false] rfl rfl (by kernel_rfl) (fun _ _ _ h => h) (Or.inl ⟨by rfl, ?_⟩) ⟨s0, s1, s2, s3⟩ ?_ ?_
          rotate_left
          · rintro w' ⟨zs0, zs1, zs2, zs3⟩
            go_simp
            with_reducible rfl
          rotate_left
          · simp only [Act.put, List.setIfInBounds_toArray, List.set_cons_zero, List.set_cons_succ, i64_w, i32_w]
            rfl
          refine one_ (i := 8) (N := some 56) #[true, true, true, true, true, true, true, true, true, true, true, true, true, true, true, false, false, false, false, false] rfl rfl (by kernel_rfl) (by decide) (fun K hK => ?_)
          refine goes_ Tryz.func36 (by kernel_rfl) rfl #[.slice ta tn tc] (by rfl) rfl rfl (by (try simp only [List.map_toArray, List.map_cons, List.map_nil]); first | done | rfl) ?_
          refine (list10_any ⟨ta, tn, tc⟩ x.cakes _ (hrd.below (encR_mono _) (below_on hw (below_drew _))) (by simp; omega)).mono ?_
          rintro e w1 ⟨t, rfl, hfr, hb1⟩
          refine ⟨_, rfl, ?_⟩
          obtain ⟨rows, r1, r2, r3, r4⟩ := ((HOWN.out.below (below_drew _)).below hb1).ex
          have hlen : (m.chests.take q).length = q := by rw [List.length_take]; have := HLc.out; omega
          have HLEN := Lib.hid hlen
          have hltv := HOWN.out.lt
          have hgC := grown_up (grown_up hg (below_drew _)) hb1
          have BOC := (BO.lift (below_drew _)).lift hb1
          have hs1 := hb1.size
          simp only [World.size_drew] at hs1
          refine hK.out _ _ ⟨lift hb1 s0, lift hb1 s1, lift hb1 s2, lift hb1 s3⟩ (fun hHeld => ?_)
          clear hK K s0 s1 s2 s3
          obtain ⟨s0, s1, s2, s3⟩ := hHeld
          refine norm_ (a' := ?_) ?_ ?_
          rotate_left
          · show Act.put _ (some 56) _ = _
            simp only [Act.put, List.setIfInBounds_toArray, List.set_cons_zero, List.set_cons_succ, i64_w, i32_w]
            rfl
          refine pure_ (i := 15) (N := some 63) (v := ?_) (a' := ?_) #[true, true, true, true, true, true, true, true, true, true, true, true, true, true, true, true, false, false, false, false] rfl rfl (by kernel_rfl) (fun _ _ _ h => h) (Or.inl ⟨by rfl, ?_⟩) ?_ ?_
          rotate_left
          · intro w'
            go_simp
            with_reducible rfl
          rotate_left
          · simp only [Act.put, List.setIfInBounds_toArray, List.set_cons_zero, List.set_cons_succ, i64_w, i32_w]
            rfl
          refine one_ (i := 16) (N := some 64) #[true, true, true, true, true, true, true, true, true, true, true, true, true, true, true, true, true, false, false, false] rfl rfl (by kernel_rfl) (by decide) (fun K hK => ?_)
          refine value_ (w1 := ?_) (v := ?_) (by rfl) rfl ?_ ?_
          rotate_left 2
          · go_simp
            constructor
            · rfl
            · rfl
          refine hK.out _ _ ⟨lift (below_box _ _) s0, lift (below_box _ _) s1, lift (below_box _ _) s2, lift (below_box _ _) s3⟩ (fun hHeld => ?_)
          clear hK K s0 s1 s2 s3
          obtain ⟨s0, s1, s2, s3⟩ := hHeld
          refine norm_ (a' := ?_) ?_ ?_
          rotate_left
          · show Act.put _ (some 64) _ = _
            simp only [Act.put, List.setIfInBounds_toArray, List.set_cons_zero, List.set_cons_succ, i64_w, i32_w]
            rfl
          refine one_ (i := 17) (N := some 65) #[true, true, true, true, true, true, true, true, true, true, true, true, true, true, true, true, true, true, false, false] rfl rfl (by kernel_rfl) (by decide) (fun K hK => ?_)
          refine step_append_lies _ (by rfl) _ _ _ (by rfl) W1w.heap.size 150 i2 _ 2 32 Tryz.underlying46 HI.out HZ0.out HZ1.out HZ2.out rfl (by omega) vv (m.chests.take q).length rows.flatten (by rfl) (r3.alloc _) ⟨w1.heap.size, 0, none⟩ 1 1 [.slice t.a t.n t.c, .int .i64 x.reserve] (by rfl) (by rfl) (World.news_of_block (cs := #[.slice t.a t.n t.c, .int .i64 x.reserve]) (t := 150) (fr := (0, 0)) (heap_alloc_new w1 _)) (by simp [Value.oneCell']) (by omega) (by omega) (by omega) (by simp; omega) (w1.heap.size + 1) (by simp) ?_
          intro gg cap w2 hown2 hgrow hat hlt2
          have hgD := grown_far (grown_up hgC (below_box _ _)) hgrow (fun r e => (hltv r e).1)
          have BOD := (BOC.lift (below_box _ _)).grown hgrow aB
          refine hK.out _ _ ⟨lift_grown hgrow s0 aB, lift_grown hgrow s1 a0, lift_grown hgrow s2 aE, lift_grown hgrow s3 aE⟩ (fun hHeld => ?_)
          clear hK K s0 s1 s2 s3
          obtain ⟨s0, s1, s2, s3⟩ := hHeld
          refine norm_ (a' := ?_) ?_ ?_
          rotate_left
          · show Act.put _ (some 65) _ = _
            simp only [Act.put, List.setIfInBounds_toArray, List.set_cons_zero, List.set_cons_succ, i64_w, i32_w]
            rfl
          refine pure_ (i := 18) (N := some 66) (v := ?_) (a' := ?_) #[true, true, true, true, true, true, true, true, true, true, true, true, true, true, true, true, true, true, true, false] rfl rfl (by kernel_rfl) (fun _ _ _ h => h) (Or.inl ⟨by rfl, ?_⟩) ?_ ?_
          rotate_left
          · intro w'
            go_simp
            with_reducible rfl
          rotate_left
          · simp only [Act.put, List.setIfInBounds_toArray, List.set_cons_zero, List.set_cons_succ, i64_w, i32_w]
            rfl
          refine last_ (i := 19) (N := none) #[true, true, true, true, true, true, true, true, true, true, true, true, true, true, true, true, true, true, true, true] rfl rfl (by kernel_rfl) (by decide) (fun K hK => ?_)
          have hst := BOD.cell 7 vv rfl
          have hsf := BOD.free 7
          refine skip_ (w1 := ?_) (by rfl) rfl ?_ ?_
          rotate_left
          · go_simp
            rfl
          refine hK.out _ _ ?_
          clear hK K
          clear s0 s1 s2 s3
          refine done_ (by kernel_rfl) ?_
          go_wp2
          go_roundw
          case measure => simp [intOf]; omega
          case rel =>
            refine ⟨q + 1, _, by omega, by go_num, BOD.set 7 _, ?_, grown_set hgD _⟩
            rw [List.take_add_one, HX.out]
            simp only [Option.toList]
            have hgr : w1.grownBy w2 vv.ownBlock := World.grownBy.trans (World.grownBy_alloc w1 _ _) hgrow
            have hTf : Fr (fun W => chestR W x [.slice t.a t.n t.c, .int .i64 x.reserve]) wr.heap.size w1 := hfr.mono (Nat.le_refl _) (fun W hW => ⟨t, rfl, hW⟩)
            have hoff := hTf.off (S := fun i => (i = B ∨ i < W1.heap.size) ∨ some i = vv.ownBlock) (fun i hi => Or.inl (by
              rcases hi with hi | hi
              · omega
              · exact (hltv i hi.symm).2))
            have hsn := Acc.snoc (S0 := fun k => k = B ∨ k < W1.heap.size) r1 r2 r4 (x := x) (cs := [.slice t.a t.n t.c, .int .i64 x.reserve]) rfl hown2 hgr (hat.imp id (fun e => by rw [e]; simp)) hoff
            have hne : (Value.slice (some ⟨gg, 0, none⟩) ((m.chests.take q).length + 1) cap).ownBlock ≠ some B := fun e => by
              have h1 := (hown2.lt B e).1
              omega
            rw [HLEN.out] at hsn hne
            exact hsn.set hne (Or.inl rfl) _
        · obtain rfl : q = v.chests.n := by omega
          rw [take_len HLc.out] at hown
          obtain ⟨s2, rfl, hn2, o2x⟩ := hown.offS (fun k hk => by have := hwS1w.size; omega) (by have := HLc.out; omega)
          have o4 := o4.gr hg
          have o1x := o1x.gr hg
          have BX2w := BL
          have BR2w := BR1w.grown hg (fun e => by injection e with e; omega)
          have hwS2w := hw
          have BB2w := BO
          obtain ⟨W2w, rfl⟩ : ∃ W : World, W = wr := ⟨_, rfl⟩
          have hbBw := BB2w.lt
          clear hn2 BL BO hown hg hw hwS1w BX1w BR1w BB1w HI HZ0 HZ1 HZ2
          go_wp2
          obtain ⟨i3, hi3, hz30, hz31, hz32⟩ := info_parts info152
          have HI := Lib.hid hi3
          have HZ0 := Lib.hid hz30
          have HZ1 := Lib.hid hz31
          have HZ2 := Lib.hid hz32
          clear hi3 hz30 hz31 hz32
          go_loopw [6] (fun i wr => ∃ q : Nat, ∃ vv : Value, q ≤ v.notes.n ∧ i = .int .i64 q ∧ Box wr B #[.int .i64 lv.last, .slice lv.air.a lv.air.n lv.air.c, .slice lv.shelves.a lv.shelves.n lv.shelves.c, .slice lv.cakes.a lv.cakes.n lv.cakes.c, .slice lv.put.a lv.put.n lv.put.c, .slice lv.weights.a lv.weights.n lv.weights.c, .slice s1.a s1.n s1.c, .slice s2.a s2.n s2.c, .int .i64 v.step, .int .i64 v.lots, vv] 49 ∧ wr.ownsRow W2w.heap.size 152 3 vv q ((m.notes.take q).flatMap NoteD.cs) ∧ W2w.grownBy wr (some B)) (fun i _ => v.notes.n - (intOf i).toNat)
          case atStart => exact ⟨0, _, Nat.zero_le _, rfl, BB2w, by simpa using World.ownsRow_nil _ _ _ _, grown_rfl _ _⟩
          case round =>
            obtain ⟨q, vv, hq, rfl, BO, hown, hg⟩ := hrel
            have hw : Below w.heap.size w wr := hwS2w.grown hg hwS2w.size (fun k e => by injection e with e; omega)
            have hszr := hg.size
            have hbB3 := BO.lt
            have BL := BX2w.grown hg (fun e => by injection e with e; omega)
            have c10 := BL.cell 10 (.slice v.notes.a v.notes.n v.notes.c) rfl
            by_cases hlt : q < v.notes.n
            · obtain ⟨x, hx⟩ := at_of_lt HLn.out hlt
              obtain ⟨b, o, ha, hbl, hc0, hc1, hc2⟩ := h.notes.note_at hx
              have hc0 := lift hw hc0
              have hc1 := lift hw hc1
              have hc2 := lift hw hc2
              have HX := Lib.hid hx
              rw [ha] at c10
              clear hx ha
              have t0 := BO.cell 10 vv rfl
              have hml : q + 1 ≤ maxLen := by unfold maxLen; omega
              have HOWN := Lib.hid hown
              clear hown
              have a0 : vv.ownBlock ≠ some w.heap.size := own_ne HOWN.out (Or.inl (by omega))
              have aE : vv.ownBlock ≠ some b := own_ne HOWN.out (Or.inl (by omega))
              have aB : vv.ownBlock ≠ some B := own_ne HOWN.out (Or.inl (by omega))
              go_wp2
              refine start_ (n := 20) (S := fun w' => w'.cell? ⟨B, 10, none⟩ = some (vv) ∧ w'.cell? ⟨w.heap.size, 10, none⟩ = some (.slice (some ⟨b, o, none⟩) v.notes.n v.notes.c) ∧ w'.cell? ⟨b, o + q * 3, none⟩ = some (.int .i64 x.sale) ∧ w'.cell? ⟨b, o + q * 3 + 1, none⟩ = some (.int .i64 x.price.lo) ∧ w'.cell? ⟨b, o + q * 3 + 2, none⟩ = some (.int .i64 x.price.hi)) (ds := [19]) #[false, false, false, false, false, false, false, false, false, false, false, false, false, false, false, false, false, false, false, false] (by kernel_rfl) rfl rfl ⟨t0, c10, hc0, hc1, hc2⟩ (fun hHeld => ?_)
              obtain ⟨s0, s1, s2, s3, s4⟩ := hHeld
              refine pure_ (i := 0) (N := some 74) (v := ?_) (a' := ?_) #[true, false, false, false, false, false, false, false, false, false, false, false, false, false, false, false, false, false, false, false] rfl rfl (by kernel_rfl) (fun _ _ _ h => h) (Or.inl ⟨by rfl, ?_⟩) ?_ ?_
              rotate_left
              · intro w'
                go_simp
                with_reducible rfl
              rotate_left
              · simp only [Act.put, List.setIfInBounds_toArray, List.set_cons_zero, List.set_cons_succ, i64_w, i32_w]
                rfl
              refine pure_ (i := 2) (N := some 76) (v := ?_) (a' := ?_) #[true, false, true, false, false, false, false, false, false, false, false, false, false, false, false, false, false, false, false, false] rfl rfl (by kernel_rfl) (fun _ _ _ h => h) (Or.inl ⟨by rfl, ?_⟩) ?_ ?_
              rotate_left
              · intro w'
                go_simp
                with_reducible rfl
              rotate_left
              · simp only [Act.put, List.setIfInBounds_toArray, List.set_cons_zero, List.set_cons_succ, i64_w, i32_w]
                rfl
              refine pure_ (i := 4) (N := some 78) (v := ?_) (a' := ?_) #[true, false, true, false, true, false, false, false, false, false, false, false, false, false, false, false, false, false, false, false] rfl rfl (by kernel_rfl) (fun _ _ _ h => h) (Or.inl ⟨by rfl, ?_⟩) ?_ ?_
              rotate_left
              · intro w'
                go_simp
                with_reducible rfl
              rotate_left
              · simp only [Act.put, List.setIfInBounds_toArray, List.set_cons_zero, List.set_cons_succ, i64_w, i32_w]
                rfl
              refine pure_ (i := 8) (N := some 82) (v := ?_) (a' := ?_) #[true, false, true, false, true, false, false, false, true, false, false, false, false, false, false, false, false, false, false, false] rfl rfl (by kernel_rfl) (fun _ _ _ h => h) (Or.inl ⟨by rfl, ?_⟩) ?_ ?_
              rotate_left
              · intro w'
                go_simp
                with_reducible rfl
              rotate_left
              · simp only [Act.put, List.setIfInBounds_toArray, List.set_cons_zero, List.set_cons_succ, i64_w, i32_w]
                rfl
              refine pure_ (i := 10) (N := some 84) (v := ?_) (a' := ?_) #[true, false, true, false, true, false, false, false, true, false, true, false, false, false, false, false, false, false, false, false] rfl rfl (by kernel_rfl) (fun _ _ _ h => h) (Or.inl ⟨by rfl, ?_⟩) ?_ ?_
              rotate_left
              · intro w'
                go_simp
                with_reducible rfl
              rotate_left
              · simp only [Act.put, List.setIfInBounds_toArray, List.set_cons_zero, List.set_cons_succ, i64_w, i32_w]
                rfl
              refine take_ (i := 1) (N := some 75) (v := ?_) (a' := ?_) #[true, true, true, false, true, false, false, false, true, false, true, false, false, false, false, false, false, false, false, false] rfl rfl (by kernel_rfl) (fun _ _ _ h => h) (Or.inl ⟨by rfl, ?_⟩) ⟨s0, s1, s2, s3, s4⟩ ?_ ?_
              rotate_left
              · rintro w' ⟨zs0, zs1, zs2, zs3, zs4⟩
                go_simp
                with_reducible rfl
              rotate_left
              · simp only [Act.put, List.setIfInBounds_toArray, List.set_cons_zero, List.set_cons_succ, i64_w, i32_w]
                rfl
              refine take_ (i := 3) (N := some 77) (v := ?_) (a' := ?_) #[true, true, true, true, true, false, false, false, true, false, true, false, false, false, false, false, false, false, false, false] rfl rfl (by kernel_rfl) (fun _ _ _ h => h) (Or.inl ⟨by rfl, ?_⟩) ⟨s0, s1, s2, s3, s4⟩ ?_ ?_
              rotate_left
              · rintro w' ⟨zs0, zs1, zs2, zs3, zs4⟩
                go_simp
                with_reducible rfl
              rotate_left
              · simp only [Act.put, List.setIfInBounds_toArray, List.set_cons_zero, List.set_cons_succ, i64_w, i32_w]
                rfl
              refine pure_ (i := 5) (N := some 79) (v := ?_) (a' := ?_) #[true, true, true, true, true, true, false, false, true, false, true, false, false, false, false, false, false, false, false, false] rfl rfl (by kernel_rfl) (fun _ _ _ h => h) (Or.inl ⟨by rfl, ?_⟩) ?_ ?_
              rotate_left
              · intro w'
                go_simp
                with_reducible rfl
              rotate_left
              · simp only [Act.put, List.setIfInBounds_toArray, List.set_cons_zero, List.set_cons_succ, i64_w, i32_w]
                rfl
              refine pure_ (i := 6) (N := some 80) (v := ?_) (a' := ?_) #[true, true, true, true, true, true, true, false, true, false, true, false, false, false, false, false, false, false, false, false] rfl rfl (by kernel_rfl) (fun _ _ _ h => h) (Or.inl ⟨by rfl, ?_⟩) ?_ ?_
              rotate_left
              · intro w'
                go_simp
                with_reducible rfl
              rotate_left
              · simp only [Act.put, List.setIfInBounds_toArray, List.set_cons_zero, List.set_cons_succ, i64_w, i32_w]
                rfl
              refine take_ (i := 7) (N := some 81) (v := ?_) (a' := ?_) #[true, true, true, true, true, true, true, true, true, false, true, false, false, false, false, false, false, false, false, false] rfl rfl (by kernel_rfl) (fun _ _ _ h => h) (Or.inl ⟨by rfl, ?_⟩) ⟨s0, s1, s2, s3, s4⟩ ?_ ?_
              rotate_left
              · rintro w' ⟨zs0, zs1, zs2, zs3, zs4⟩
                go_simp
                with_reducible rfl
              rotate_left
              · simp only [Act.put, List.setIfInBounds_toArray, List.set_cons_zero, List.set_cons_succ, i64_w, i32_w]
                rfl
              refine take_ (i := 9) (N := some 83) (v := ?_) (a' := ?_) #[true, true, true, true, true, true, true, true, true, true, true, false, false, false, false, false, false, false, false, false] rfl rfl (by kernel_rfl) (fun _ _ _ h => h) (Or.inl ⟨by rfl, ?_⟩) ⟨s0, s1, s2, s3, s4⟩ ?_ ?_
              rotate_left
              · rintro w' ⟨zs0, zs1, zs2, zs3, zs4⟩
                go_simp
                with_reducible rfl
              rotate_left
              · simp only [Act.put, List.setIfInBounds_toArray, List.set_cons_zero, List.set_cons_succ, i64_w, i32_w]
                rfl
              refine pure_ (i := 11) (N := some 85) (v := ?_) (a' := ?_) #[true, true, true, true, true, true, true, true, true, true, true, true, false, false, false, false, false, false, false, false] rfl rfl (by kernel_rfl) (fun _ _ _ h => h) (Or.inl ⟨by rfl, ?_⟩) ?_ ?_
              rotate_left
              · intro w'
                go_simp
                with_reducible rfl
              rotate_left
              · simp only [Act.put, List.setIfInBounds_toArray, List.set_cons_zero, List.set_cons_succ, i64_w, i32_w]
                rfl
              refine pure_ (i := 12) (N := some 86) (v := ?_) (a' := ?_) #[true, true, true, true, true, true, true, true, true, true, true, true, true, false, false, false, false, false, false, false] rfl rfl (by kernel_rfl) (fun _ _ _ h => h) (Or.inl ⟨by rfl, ?_⟩) ?_ ?_
              rotate_left
              · intro w'
                go_simp
                with_reducible rfl
              rotate_left
              · simp only [Act.put, List.setIfInBounds_toArray, List.set_cons_zero, List.set_cons_succ, i64_w, i32_w]
                rfl
              refine take_ (i := 13) (N := some 87) (v := ?_) (a' := ?_) #[true, true, true, true, true, true, true, true, true, true, true, true, true, true, false, false, false, false, false, false] rfl rfl (by kernel_rfl) (fun _ _ _ h => h) (Or.inl ⟨by rfl, ?_⟩) ⟨s0, s1, s2, s3, s4⟩ ?_ ?_
              rotate_left
              · rintro w' ⟨zs0, zs1, zs2, zs3, zs4⟩
                go_simp
                with_reducible rfl
              rotate_left
              · simp only [Act.put, List.setIfInBounds_toArray, List.set_cons_zero, List.set_cons_succ, i64_w, i32_w]
                rfl
              refine one_ (i := 14) (N := some 88) #[true, true, true, true, true, true, true, true, true, true, true, true, true, true, true, false, false, false, false, false] rfl rfl (by kernel_rfl) (by decide) (fun K hK => ?_)
              refine goes_ Tryz.func33 (by kernel_rfl) rfl #[.agg #[.int .i64 x.price.lo, .int .i64 x.price.hi]] (by rfl) rfl rfl (by (try simp only [List.map_toArray, List.map_cons, List.map_nil]); first | done | rfl) ?_
              refine (to10_any _ _ _).mono ?_
              rintro e w1 ⟨rfl, hb1⟩
              refine ⟨_, rfl, ?_⟩
              have hownC := own_below (own_below HOWN.out (below_drew _)) hb1
              have hltv := HOWN.out.lt
              have hgC := grown_up (grown_up hg (below_drew _)) hb1
              have BOC := (BO.lift (below_drew _)).lift hb1
              have hs1 := hb1.size
              simp only [World.size_drew] at hs1
              refine hK.out _ _ ⟨lift hb1 s0, lift hb1 s1, lift hb1 s2, lift hb1 s3, lift hb1 s4⟩ (fun hHeld => ?_)
              clear hK K s0 s1 s2 s3 s4
              obtain ⟨s0, s1, s2, s3, s4⟩ := hHeld
              refine norm_ (a' := ?_) ?_ ?_
              rotate_left
              · show Act.put _ (some 88) _ = _
                simp only [Act.put, List.setIfInBounds_toArray, List.set_cons_zero, List.set_cons_succ, i64_w, i32_w]
                rfl
              refine pure_ (i := 15) (N := some 89) (v := ?_) (a' := ?_) #[true, true, true, true, true, true, true, true, true, true, true, true, true, true, true, true, false, false, false, false] rfl rfl (by kernel_rfl) (fun _ _ _ h => h) (Or.inl ⟨by rfl, ?_⟩) ?_ ?_
              rotate_left
              · intro w'
                go_simp
                with_reducible rfl
              rotate_left
              · simp only [Act.put, List.setIfInBounds_toArray, List.set_cons_zero, List.set_cons_succ, i64_w, i32_w]
                rfl
              refine one_ (i := 16) (N := some 90) #[true, true, true, true, true, true, true, true, true, true, true, true, true, true, true, true, true, false, false, false] rfl rfl (by kernel_rfl) (by decide) (fun K hK => ?_)
              refine value_ (w1 := ?_) (v := ?_) (by rfl) rfl ?_ ?_
              rotate_left 2
              · go_simp
                constructor
                · rfl
                · rfl
              refine hK.out _ _ ⟨lift (below_box _ _) s0, lift (below_box _ _) s1, lift (below_box _ _) s2, lift (below_box _ _) s3, lift (below_box _ _) s4⟩ (fun hHeld => ?_)
              clear hK K s0 s1 s2 s3 s4
              obtain ⟨s0, s1, s2, s3, s4⟩ := hHeld
              refine norm_ (a' := ?_) ?_ ?_
              rotate_left
              · show Act.put _ (some 90) _ = _
                simp only [Act.put, List.setIfInBounds_toArray, List.set_cons_zero, List.set_cons_succ, i64_w, i32_w]
                rfl
              refine one_ (i := 17) (N := some 91) #[true, true, true, true, true, true, true, true, true, true, true, true, true, true, true, true, true, true, false, false] rfl rfl (by kernel_rfl) (by decide) (fun K hK => ?_)
              refine step_append_lies _ (by rfl) _ _ _ (by rfl) W2w.heap.size 152 i3 _ 3 24 Tryz.underlying47 HI.out HZ0.out HZ1.out HZ2.out rfl (by omega) vv q ((m.notes.take q).flatMap NoteD.cs) (by rfl) (hownC.alloc _) ⟨w1.heap.size, 0, none⟩ 1 1 [.int .i64 x.sale, .int .i64 x.price.lo, .int .i64 x.price.hi] (by rfl) (by rfl) (World.news_of_block (cs := #[.int .i64 x.sale, .int .i64 x.price.lo, .int .i64 x.price.hi]) (t := 152) (fr := (0, 0)) (heap_alloc_new w1 _)) (by simp [Value.oneCell']) (by omega) hml (by omega) (by simp; omega) (w1.heap.size + 1) (by simp) ?_
              intro gg cap w2 hown2 hgrow hat hlt2
              have hgD := grown_far (grown_up hgC (below_box _ _)) hgrow (fun r e => (hltv r e).1)
              have BOD := (BOC.lift (below_box _ _)).grown hgrow aB
              refine hK.out _ _ ⟨lift_grown hgrow s0 aB, lift_grown hgrow s1 a0, lift_grown hgrow s2 aE, lift_grown hgrow s3 aE, lift_grown hgrow s4 aE⟩ (fun hHeld => ?_)
              clear hK K s0 s1 s2 s3 s4
              obtain ⟨s0, s1, s2, s3, s4⟩ := hHeld
              refine norm_ (a' := ?_) ?_ ?_
              rotate_left
              · show Act.put _ (some 91) _ = _
                simp only [Act.put, List.setIfInBounds_toArray, List.set_cons_zero, List.set_cons_succ, i64_w, i32_w]
                rfl
              refine pure_ (i := 18) (N := some 92) (v := ?_) (a' := ?_) #[true, true, true, true, true, true, true, true, true, true, true, true, true, true, true, true, true, true, true, false] rfl rfl (by kernel_rfl) (fun _ _ _ h => h) (Or.inl ⟨by rfl, ?_⟩) ?_ ?_
              rotate_left
              · intro w'
                go_simp
                with_reducible rfl
              rotate_left
              · simp only [Act.put, List.setIfInBounds_toArray, List.set_cons_zero, List.set_cons_succ, i64_w, i32_w]
                rfl
              refine last_ (i := 19) (N := none) #[true, true, true, true, true, true, true, true, true, true, true, true, true, true, true, true, true, true, true, true] rfl rfl (by kernel_rfl) (by decide) (fun K hK => ?_)
              have hst := BOD.cell 10 vv rfl
              have hsf := BOD.free 10
              refine skip_ (w1 := ?_) (by rfl) rfl ?_ ?_
              rotate_left
              · go_simp
                rfl
              refine hK.out _ _ ?_
              clear hK K
              clear s0 s1 s2 s3 s4
              refine done_ (by kernel_rfl) ?_
              go_wp2
              go_roundw
              case measure => simp [intOf]; omega
              case rel =>
                refine ⟨q + 1, _, by omega, by go_num, BOD.set 10 _, ?_, grown_set hgD _⟩
                rw [List.take_add_one, HX.out]
                simp only [List.flatMap_append, Option.toList, List.flatMap_cons, List.flatMap_nil, List.append_nil]
                exact own_far hown2 (fun e => by
                  have h1 := (hown2.lt B e).1
                  omega) _
            · obtain rfl : q = v.notes.n := by omega
              rw [take_len HLn.out] at hown
              obtain ⟨s3, rfl, hn3, hsb3, hfr3⟩ := own_fr (f := NoteD.cs) (fun _ => rfl) HLn.out (by omega) hown
              have o3x := hfr3.off (S := fun k => k = B ∨ k < W1.heap.size) (fun k hk => by have := hwS2w.size; omega)
              clear hfr3 hsb3
              have o4 := o4.gr hg
              have o1x := o1x.gr hg
              have o2x := o2x.gr hg
              have BX3w := BL
              have BR3w := BR2w.grown hg (fun e => by injection e with e; omega)
              have hwS3w := hw
              have BB3w := BO
              obtain ⟨W3w, rfl⟩ : ∃ W : World, W = wr := ⟨_, rfl⟩
              have hbBw := BB3w.lt
              clear hn3 BL BO hown hg hw hwS2w BX2w BR2w BB2w HI HZ0 HZ1 HZ2
              have k0 := BB3w.cell 0 (.int .i64 lv.last) rfl
              have f0 := BR3w.free 0
              have r0 := BR3w.cell 0 (.int .i64 0) rfl
              have k1 := BB3w.cell 1 (.slice lv.air.a lv.air.n lv.air.c) rfl
              have f1 := BR3w.free 1
              have r1 := BR3w.cell 1 (.slice none 0 0) rfl
              have k2 := BB3w.cell 2 (.slice lv.shelves.a lv.shelves.n lv.shelves.c) rfl
              have f2 := BR3w.free 2
              have r2 := BR3w.cell 2 (.slice none 0 0) rfl
              have k3 := BB3w.cell 3 (.slice lv.cakes.a lv.cakes.n lv.cakes.c) rfl
              have f3 := BR3w.free 3
              have r3 := BR3w.cell 3 (.slice none 0 0) rfl
              have k4 := BB3w.cell 4 (.slice lv.put.a lv.put.n lv.put.c) rfl
              have f4 := BR3w.free 4
              have r4 := BR3w.cell 4 (.slice none 0 0) rfl
              have k5 := BB3w.cell 5 (.slice lv.weights.a lv.weights.n lv.weights.c) rfl
              have f5 := BR3w.free 5
              have r5 := BR3w.cell 5 (.slice none 0 0) rfl
              have k6 := BB3w.cell 6 (.slice s1.a s1.n s1.c) rfl
              have f6 := BR3w.free 6
              have r6 := BR3w.cell 6 (.slice none 0 0) rfl
              have k7 := BB3w.cell 7 (.slice s2.a s2.n s2.c) rfl
              have f7 := BR3w.free 7
              have r7 := BR3w.cell 7 (.slice none 0 0) rfl
              have k8 := BB3w.cell 8 (.int .i64 v.step) rfl
              have f8 := BR3w.free 8
              have r8 := BR3w.cell 8 (.int .i64 0) rfl
              have k9 := BB3w.cell 9 (.int .i64 v.lots) rfl
              have f9 := BR3w.free 9
              have r9 := BR3w.cell 9 (.int .i64 0) rfl
              have k10 := BB3w.cell 10 (.slice s3.a s3.n s3.c) rfl
              have f10 := BR3w.free 10
              have r10 := BR3w.cell 10 (.slice none 0 0) rfl
              go_wp2
              have B6 := BR3w.set 0 (.int .i64 lv.last)
              simp only [List.setIfInBounds_toArray, List.set_cons_zero, List.set_cons_succ] at B6
              have B6 := B6.set 1 (.slice lv.air.a lv.air.n lv.air.c)
              simp only [List.setIfInBounds_toArray, List.set_cons_zero, List.set_cons_succ] at B6
              have B6 := B6.set 2 (.slice lv.shelves.a lv.shelves.n lv.shelves.c)
              simp only [List.setIfInBounds_toArray, List.set_cons_zero, List.set_cons_succ] at B6
              have B6 := B6.set 3 (.slice lv.cakes.a lv.cakes.n lv.cakes.c)
              simp only [List.setIfInBounds_toArray, List.set_cons_zero, List.set_cons_succ] at B6
              have B6 := B6.set 4 (.slice lv.put.a lv.put.n lv.put.c)
              simp only [List.setIfInBounds_toArray, List.set_cons_zero, List.set_cons_succ] at B6
              have B6 := B6.set 5 (.slice lv.weights.a lv.weights.n lv.weights.c)
              simp only [List.setIfInBounds_toArray, List.set_cons_zero, List.set_cons_succ] at B6
              have B6 := B6.set 6 (.slice s1.a s1.n s1.c)
              simp only [List.setIfInBounds_toArray, List.set_cons_zero, List.set_cons_succ] at B6
              have B6 := B6.set 7 (.slice s2.a s2.n s2.c)
              simp only [List.setIfInBounds_toArray, List.set_cons_zero, List.set_cons_succ] at B6
              have B6 := B6.set 8 (.int .i64 v.step)
              simp only [List.setIfInBounds_toArray, List.set_cons_zero, List.set_cons_succ] at B6
              have B6 := B6.set 9 (.int .i64 v.lots)
              simp only [List.setIfInBounds_toArray, List.set_cons_zero, List.set_cons_succ] at B6
              have B6 := B6.set 10 (.slice s3.a s3.n s3.c)
              simp only [List.setIfInBounds_toArray, List.set_cons_zero, List.set_cons_succ] at B6
              have hgR : W3w.grownBy ((((((((((((W3w.setCell ⟨W0.heap.size, 0, none⟩ (.int .i64 lv.last)).setCell ⟨W0.heap.size, 1, none⟩ (.slice lv.air.a lv.air.n lv.air.c)).setCell ⟨W0.heap.size, 2, none⟩ (.slice lv.shelves.a lv.shelves.n lv.shelves.c)).setCell ⟨W0.heap.size, 3, none⟩ (.slice lv.cakes.a lv.cakes.n lv.cakes.c)).setCell ⟨W0.heap.size, 4, none⟩ (.slice lv.put.a lv.put.n lv.put.c)).setCell ⟨W0.heap.size, 5, none⟩ (.slice lv.weights.a lv.weights.n lv.weights.c)).setCell ⟨W0.heap.size, 6, none⟩ (.slice s1.a s1.n s1.c)).setCell ⟨W0.heap.size, 7, none⟩ (.slice s2.a s2.n s2.c)).setCell ⟨W0.heap.size, 8, none⟩ (.int .i64 v.step)).setCell ⟨W0.heap.size, 9, none⟩ (.int .i64 v.lots)).setCell ⟨W0.heap.size, 10, none⟩ (.slice s3.a s3.n s3.c))) (some W0.heap.size) := grown_set (grown_set (grown_set (grown_set (grown_set (grown_set (grown_set (grown_set (grown_set (grown_set (grown_set (grown_rfl _ _) _) _) _) _) _) _) _) _) _) _) _
              have z0 := B6.cell 0 (.int .i64 lv.last) rfl
              have z1 := B6.cell 1 (.slice lv.air.a lv.air.n lv.air.c) rfl
              have z2 := B6.cell 2 (.slice lv.shelves.a lv.shelves.n lv.shelves.c) rfl
              have z3 := B6.cell 3 (.slice lv.cakes.a lv.cakes.n lv.cakes.c) rfl
              have z4 := B6.cell 4 (.slice lv.put.a lv.put.n lv.put.c) rfl
              have z5 := B6.cell 5 (.slice lv.weights.a lv.weights.n lv.weights.c) rfl
              have z6 := B6.cell 6 (.slice s1.a s1.n s1.c) rfl
              have z7 := B6.cell 7 (.slice s2.a s2.n s2.c) rfl
              have z8 := B6.cell 8 (.int .i64 v.step) rfl
              have z9 := B6.cell 9 (.int .i64 v.lots) rfl
              have z10 := B6.cell 10 (.slice s3.a s3.n s3.c) rfl
              refine bodyPost_ret (v := .agg #[.int .i64 lv.last, .slice lv.air.a lv.air.n lv.air.c, .slice lv.shelves.a lv.shelves.n lv.shelves.c, .slice lv.cakes.a lv.cakes.n lv.cakes.c, .slice lv.put.a lv.put.n lv.put.c, .slice lv.weights.a lv.weights.n lv.weights.c, .slice s1.a s1.n s1.c, .slice s2.a s2.n s2.c, .int .i64 v.step, .int .i64 v.lots, .slice s3.a s3.n s3.c]) (by simp [results, Tryz.results26, go_sem, z0, z1, z2, z3, z4, z5, z6, z7, z8, z9, z10]) rfl ?_
              have hS := hwS3w.size
              have hfr : ∀ {P : World → Prop}, Off P (fun k => k = B ∨ k < W1.heap.size) W3w → Fr P w.heap.size _ := fun ho => (ho.fr hgR.size (fun k h1 h2 h3 => hgR.block k h3 (fun e => by injection e with e; omega))).mono (by omega) (fun _ h => h)
              refine ⟨⟨lv, s1, s2, v.step, v.lots, s3⟩, rfl, ?_, hwS3w.grown hgR hS (fun k e => by injection e with e; omega)⟩
              exact fun w' h1 h2 => ⟨hfr o4 w' h1 h2, hfr o1x w' h1 h2, hfr o2x w' h1 h2, h.step, h.lots, hfr o3x w' h1 h2⟩
end Go.Proofs.YtenfnakhijobkaaGreat
namespace Go.Proofs.YtenfnakhijobkaaGreat
open Go.RowKit
variable {P : Program} {α : Type} {f : α → List Value}
/-- What a copy leaves. -/
structure Copied (f : α → List Value) (sz : Nat) (e : TypeId) (w w' : World) (s : Sl) (xs : List α) : Prop where
  rd : Rd (encR f) sz w' s xs
  below : Below w.heap.size w w'
  n : s.n = xs.length
  at_ : ∃ (g : Nat) (cur : Array Value), s.a = some ⟨g, 0, none⟩ ∧ w.heap.size ≤ g ∧ Box w' g cur e
theorem wpList_copy {sz bytes : Nat} (hf : ∀ x, (f x).length = sz) (hpos : 0 < sz) (hb : bytes ≤ 1000) (hone : ∀ x, ∀ u ∈ f x, u.oneCell' = true) {ops : Array Oper} {rest : List Oper} {o : Oper} {a : Act} {Q : Exit → Act → World → Prop}
    (hgd : o.guard = none) (x y : Operand) (t : TypeId) (ho : o.op = .call { callee := .builtin .append, args := #[x, y], argTypes := #[t, t] }) (e : TypeId) (i : TypeInfo) (z : Value)
    (ht : P.underlying t = some (.slice e)) (hi : P.info? e = some i) (hz : i.zero = some z) (hsize : i.size = sz) (hby : i.bytes = bytes) (hzs : z.cells.size = sz)
    (w : World) (s : Sl) (xs : List α) (h : Rd (encR f) sz w s xs) (hn : s.n ≤ 100000) (hx : a.eval x = .slice (some ⟨w.heap.size, 0, none⟩) 0 0) (hy : a.eval y = .slice s.a s.n s.c)
    (hK : ∀ (s' : Sl) w', Copied f sz e w w' s' xs → wpList P ops Q rest (a.put o.dst (.slice s'.a s'.n s'.c)) w') : wpList P ops Q (o :: rest) a (w.alloc (.cells #[] e)) := by
  have hmade := World.ownsRow_made (base := w.heap.size) (e := e) (size := sz) w #[] 0 (Nat.le_refl _) (Nat.zero_le _) (by simp)
  obtain ⟨sa, sn, sc⟩ := s
  simp only at hn hy
  have hl : xs.length = sn := h.len
  cases sa with
  | none =>
    have hnil : xs = [] := by
      cases xs with
      | nil => rfl
      | cons x0 xs =>
        obtain ⟨b, o, cs, ha, _⟩ := h.cells 0 x0 rfl
        cases ha
    subst hnil
    have h0 : sn = 0 := hl.symm
    subst h0
    refine wpList_append_zero hgd x y t ho w.heap.size e i sz sc ht hi _ 0 [] hx hmade hy ?_
    refine hK ⟨some ⟨w.heap.size, 0, none⟩, 0, 0⟩ _ ⟨rd_nil0 _ _ _ _ _, below_box _ _, rfl, w.heap.size, #[], rfl, Nat.le_refl _, Box.new _ _ _⟩
  | some ad =>
    have L1 : (xs.flatMap f).length = sn * sz := by rw [← hl]; exact flat_len hf xs
    have m2 : (0 + sn) * bytes ≤ 100000 * 1000 := Nat.mul_le_mul (by omega) hb
    refine wpList_append_own _ hgd x y t ho w.heap.size e i z sz bytes ht hi hz hsize hby hzs hpos _ 0 [] hx hmade ad sn sc (xs.flatMap f) hy L1 (fun j u hj => Lib.cell?_alloc_some _ (h.flat hf hpos ad rfl j u hj)) (fun u hu => by
      obtain ⟨x0, _, hx0⟩ := List.mem_flatMap.1 hu
      exact hone x0 u hx0) (by unfold maxLen; omega) (by omega) (by simp) ?_
    intro v' w1 hown hg hnil
    have hbw : Below w.heap.size w w1 := ((Below.refl _ w).alloc (Nat.le_refl _) _).grown hg (by simp) (fun k hk => (hmade.lt k hk).1)
    rw [Nat.zero_add, List.nil_append, ← hl] at hown
    have hsm : xs.length * sz ≤ 281474976710656 := by rw [hl]; exact h.small
    obtain ⟨a', c', rfl, hrd, hbb⟩ := own_rd hf hsm hown
    rcases hown.2 with ⟨h1, h2⟩ | ⟨g, cap, cur, h1, h2, h3, _⟩
    · have := hnil.1 h1
      simp at this
    · simp only [Value.slice.injEq] at h1
      exact hK ⟨a', xs.length, c'⟩ _ ⟨hrd, hbw, rfl, g, cur, h1.1, h2, ⟨h3⟩⟩
/-- One number of an element turned. -/
theorem Rd.set_cell {sz : Nat} {w : World} {s : Sl} {xs : List α} (h : Rd (encR f) sz w s xs) {b o k q : Nat} {x y : α} {u : Value} (ha : s.a = some ⟨b, o, none⟩) (hx : xs[k]? = some x) (hq : q < sz) (hy : f y = (f x).set q u) (hfx : (f x).length = sz) :
    Rd (encR f) sz (w.setCell ⟨b, o + k * sz + q, none⟩ u) s (xs.set k y) := by
  refine ⟨by rw [List.length_set]; exact h.len, h.small, fun j x' hj => ?_⟩
  by_cases e : k = j
  · subst e
    rw [List.getElem?_set_self (lt_of_at hx)] at hj
    cases hj
    obtain ⟨b', o', cs, ha', hlt, hl, hr, hc⟩ := h.cells k x hx
    rw [ha] at ha'
    cases ha'
    cases hr
    refine ⟨b, o, f y, ha, by rw [World.size_setCell]; exact hlt, by rw [hy, List.length_set]; exact hfx, rfl, fun p v hv => ?_⟩
    rw [hy] at hv
    by_cases e2 : q = p
    · subst e2
      rw [List.getElem?_set_self (by omega)] at hv
      cases hv
      have hold := hc q _ (List.getElem?_eq_getElem (by omega))
      exact World.cell?_setCell_same _ _ _ hold
    · rw [List.getElem?_set_ne e2] at hv
      refine (World.cell?_setCell_other _ _ _ _ ?_).trans (hc p v hv)
      intro e3; apply e2; injection e3 with _ e3; omega
  · rw [List.getElem?_set_ne e] at hj
    obtain ⟨b', o', cs, ha', hlt, hl, hr, hc⟩ := h.cells j x' hj
    rw [ha] at ha'
    cases ha'
    refine ⟨b, o, cs, ha, by rw [World.size_setCell]; exact hlt, hl, hr, fun p v hv => ?_⟩
    have hp := lt_of_at hv
    refine (World.cell?_setCell_other _ _ _ _ ?_).trans (hc p v hv)
    intro e3
    injection e3 with _ e3
    rcases Nat.lt_or_gt_of_ne e with e4 | e4
    · have := Nat.mul_le_mul_right sz (show k + 1 ≤ j from e4)
      rw [Nat.succ_mul] at this
      omega
    · have := Nat.mul_le_mul_right sz (show j + 1 ≤ k from e4)
      rw [Nat.succ_mul] at this
      omega
end Go.Proofs.YtenfnakhijobkaaGreat
namespace Go.Proofs.YtenfnakhijobkaaGreat
open Go.RowKit Go.ChangeShapes Go.WideShapes Go.Deep
section
variable {H : Type} {enc : TypeId × Value → H} {P : Program} {w : World}
/-- No slice in a datum takes more than memory has. -/
def Wt (P : Program) (t : TypeId) (d : DataW H) : Prop := ∀ n ∈ d.weights P t, n ≤ reachBytes
theorem Wt.field {t : TypeId} {fs : Array Field} (hu : P.underlying t = some (.struct fs)) {ds : List (DataW H)} (h : Wt P t (.agg ds)) {j : Nat} {f : Field} {d : DataW H} (hf : fs[j]? = some f) (hd : ds[j]? = some d) : Wt P f.type d := fun n hn =>
  h n (by
    simp only [DataW.weights, hu]
    exact DataW.weights_mem_each (j := j) (by simp [hf]) hd n hn)
theorem weightsAll_mem {e : TypeId} : ∀ {ds : List (DataW H)} {d : DataW H}, d ∈ ds → ∀ n ∈ d.weights P e, n ∈ DataW.weightsAll P e ds
  | [], _, h, _, _ => by cases h
  | x :: r, d, h, n, hn => by
    simp only [DataW.weightsAll, List.mem_append]
    rcases List.mem_cons.1 h with rfl | h
    · exact Or.inl hn
    · exact Or.inr (weightsAll_mem h n hn)
theorem Wt.elem {t e : TypeId} (hu : P.underlying t = some (.slice e)) {ds sp : List (DataW H)} (h : Wt P t (.slice ds sp)) {d : DataW H} (hd : d ∈ ds) : Wt P e d := fun n hn =>
  h n (by
    simp only [DataW.weights, hu, List.mem_cons, List.mem_append]
    exact Or.inr (Or.inl (weightsAll_mem hd n hn)))
theorem Wt.len {t e : TypeId} (hu : P.underlying t = some (.slice e)) {ds sp : List (DataW H)} (h : Wt P t (.slice ds sp)) : ds.length * P.bytesOf e ≤ reachBytes := by
  have := h ((ds.length + sp.length) * P.bytesOf e) (by simp [DataW.weights, hu])
  rw [Nat.add_mul] at this
  omega
theorem list_of {α : Type} {Q : Nat → α → Prop} : ∀ (n : Nat), (∀ i, i < n → ∃ x, Q i x) → ∃ xs : List α, xs.length = n ∧ ∀ j x, xs[j]? = some x → Q j x
  | 0, _ => ⟨[], rfl, fun j x h => by simp at h⟩
  | n + 1, h => by
    obtain ⟨xs, hl, hq⟩ := list_of n (fun i hi => h i (by omega))
    obtain ⟨x, hx⟩ := h n (by omega)
    refine ⟨xs ++ [x], by simp [hl], fun j y hy => ?_⟩
    by_cases hj : j < n
    · rw [List.getElem?_append_left (by omega)] at hy
      exact hq j y hy
    · obtain rfl : j = n := by have := lt_of_at hy; simp at this; omega
      rw [List.getElem?_append_right (by omega)] at hy
      simp [hl] at hy
      exact hy ▸ hx
theorem len1 {α : Type} {l : List α} (h : l.length = 1) : ∃ a, l = [a] := by
  match l, h with
  | [a], _ => exact ⟨a, rfl⟩
theorem len2 {α : Type} {l : List α} (h : l.length = 2) : ∃ a b, l = [a, b] := by
  match l, h with
  | [a, b], _ => exact ⟨a, b, rfl⟩
theorem len3 {α : Type} {l : List α} (h : l.length = 3) : ∃ a b c, l = [a, b, c] := by
  match l, h with
  | [a, b, c], _ => exact ⟨a, b, c, rfl⟩
theorem len4 {α : Type} {l : List α} (h : l.length = 4) : ∃ a b c d, l = [a, b, c, d] := by
  match l, h with
  | [a, b, c, d], _ => exact ⟨a, b, c, d, rfl⟩
theorem len6 {α : Type} {l : List α} (h : l.length = 6) : ∃ a b c d e f, l = [a, b, c, d, e, f] := by
  match l, h with
  | [a, b, c, d, e, f], _ => exact ⟨a, b, c, d, e, f, rfl⟩
theorem len11 {α : Type} {l : List α} (h : l.length = 11) : ∃ a b c d e f g h i j k, l = [a, b, c, d, e, f, g, h, i, j, k] := by
  match l, h with
  | [a, b, c, d, e, f, g, h, i, j, k], _ => exact ⟨a, b, c, d, e, f, g, h, i, j, k, rfl⟩
theorem open_rd {α : Type} {R : World → α → List Value → Prop} {t e : TypeId} {sz : Nat} (hu : P.underlying t = some (.slice e)) (hsz : P.cellsOf e = sz) (hpos : 0 < sz) {nb : Nat} (hnb : P.bytesOf e = nb) (hb' : sz ≤ nb)
    (each : ∀ (n : Nat) (cs : List Value) (x : DataW H × List MemPlace), DataW.trod enc P w 0 (fun _ => true) true n e cs = some x → Wt P e x.1 → ∃ y, cs.length = sz ∧ R w y cs)
    {fuel : Nat} {cs : List Value} {x : DataW H × List MemPlace} (h : DataW.trod enc P w 0 (fun _ => true) true fuel t cs = some x) (hw : Wt P t x.1) :
    ∃ (s : Sl) (ys : List α), cs = [.slice s.a s.n s.c] ∧ Rd R sz w s ys := by
  have hb : sz ≤ P.bytesOf e := by rw [hnb]; exact hb'
  rcases open_slice hu h with ⟨rfl, rfl⟩ | ⟨a, len, cap, m, n, D, Pl, rfl, hbl, hl, hm, hmm, rfl, hel⟩
  · exact ⟨⟨none, 0, 0⟩, [], rfl, rd_nil0 _ _ _ _ _⟩
  · simp only [if_true] at hmm
    subst hmm
    have hlen := Wt.len hu hw
    rw [List.length_map, List.length_range] at hlen
    obtain ⟨ys, hyl, hy⟩ := list_of (Q := fun i y => ∃ cs', w.cells? 0 (a.add (i * sz)) sz = some cs' ∧ cs'.length = sz ∧ R w y cs') len (fun i hi => by
      obtain ⟨cs', h1, h2⟩ := hel i (by omega)
      obtain ⟨y, hy1, hy2⟩ := each n cs' _ h2 (Wt.elem hu hw (List.mem_map.2 ⟨i, List.mem_range.2 hi, rfl⟩))
      rw [hsz] at h1
      exact ⟨y, cs', h1, hy1, hy2⟩)
    refine ⟨⟨some a, len, _⟩, ys, rfl, hyl, ?_, fun j y hj => ?_⟩
    · have h1 : len * sz ≤ len * P.bytesOf e := Nat.mul_le_mul_left _ hb
      have : reachBytes ≤ 281474976710656 := by decide
      show len * sz ≤ _
      omega
    · obtain ⟨cs', h1, h2, h3⟩ := hy j y hj
      obtain ⟨_, _, hc⟩ := World.cells?_some h1
      obtain ⟨b, o, sp⟩ := a
      have hsp : sp = none := by
        have h4 := hy 0 (ys[0]'(by have := lt_of_at hj; omega)) (List.getElem?_eq_getElem _)
        obtain ⟨cs0, h5, h6, _⟩ := h4
        obtain ⟨_, _, h7⟩ := World.cells?_some h5
        have h8 := h7 0 hpos
        rw [Nat.zero_mul, add_add, Nat.add_zero, Addr.add, if_pos rfl, List.getElem?_eq_getElem (by omega)] at h8
        unfold World.cell? at h8
        simp only at h8
        split at h8
        · split at h8
          · cases h8
          · rename_i hn
            simpa using hn
        · cases h8
      subst hsp
      have haddr : ∀ q, (⟨b, o, none⟩ : Addr).add q = ⟨b, o + q, none⟩ := fun q => by unfold Addr.add; split <;> simp_all
      have hcell : ∀ (k : Nat) (v : Value), cs'[k]? = some v → w.cell? ⟨b, o + j * sz + k, none⟩ = some v := fun k v hv => by
        have h9 := hc k (by have := lt_of_at hv; omega)
        rw [add_add, haddr, hv] at h9
        rw [← h9, Nat.add_assoc]
      refine ⟨b, o, cs', rfl, ?_, h2, h3, hcell⟩
      have h10 := hcell 0 _ (List.getElem?_eq_getElem (by omega))
      exact World.block_lt_of_cell? w _ h10
end
end Go.Proofs.YtenfnakhijobkaaGreat
namespace Go.Proofs.YtenfnakhijobkaaGreat
open Go.RowKit Go.ChangeShapes Go.WideShapes Go.Deep
section
variable {H : Type} {enc : TypeId × Value → H} {w : World}
abbrev TrodC (enc : TypeId × Value → H) (w : World) (n : Nat) (t : TypeId) (cs : List Value) (x : DataW H × List MemPlace) : Prop := DataW.trod enc Tryz.prog w 0 (fun _ => true) true n t cs = some x
theorem cellsOf22 : Tryz.prog.cellsOf 22 = 1 := by kernel_rfl
theorem cellsOf23 : Tryz.prog.cellsOf 23 = 1 := by kernel_rfl
theorem cellsOf24 : Tryz.prog.cellsOf 24 = 1 := by kernel_rfl
theorem cellsOf26 : Tryz.prog.cellsOf 26 = 1 := by kernel_rfl
theorem cellsOf28 : Tryz.prog.cellsOf 28 = 6 := by kernel_rfl
theorem cellsOf29 : Tryz.prog.cellsOf 29 = 1 := by kernel_rfl
theorem cellsOf30 : Tryz.prog.cellsOf 30 = 1 := by kernel_rfl
theorem cellsOf31 : Tryz.prog.cellsOf 31 = 1 := by kernel_rfl
theorem cellsOf3 : Tryz.prog.cellsOf 3 = 1 := by kernel_rfl
theorem cellsOf65 : Tryz.prog.cellsOf 65 = 2 := by kernel_rfl
theorem cellsOf25 : Tryz.prog.cellsOf 25 = 1 := by kernel_rfl
theorem openI {n : Nat} {cs : List Value} {x : DataW H × List MemPlace} (h : TrodC enc w n 3 cs x) : ∃ y : Int, cs = [.int .i64 y] := by
  obtain ⟨y, hy, _⟩ := DataW.trod_int Tryz.underlying3 h
  exact ⟨y, hy⟩
theorem openRg {n : Nat} {cs : List Value} {x : DataW H × List MemPlace} (h : TrodC enc w n 65 cs x) : ∃ y : Rg, cs.length = 2 ∧ cs = y.cs := by
  obtain ⟨xs, k, _, _, hl, hxl, hf⟩ := DataW.trod_struct Tryz.underlying65 h
  rw [cellsOf65] at hl
  obtain ⟨y0, y1, rfl⟩ := len2 (show xs.length = 2 from hxl)
  obtain ⟨a, b, rfl⟩ := len2 hl
  have g0 : TrodC enc w k 3 (List.take (Tryz.prog.cellsOf 3) (List.drop 0 [a, b])) y0 := hf 0 _ rfl
  have g1 : TrodC enc w k 3 (List.take (Tryz.prog.cellsOf 3) (List.drop 1 [a, b])) y1 := hf 1 _ rfl
  simp only [cellsOf3] at g0 g1
  obtain ⟨p, hp⟩ := openI g0
  obtain ⟨q, hq⟩ := openI g1
  simp at hp hq
  exact ⟨⟨p, q⟩, rfl, by rw [hp, hq]⟩
theorem openInts {n : Nat} {cs : List Value} {x : DataW H × List MemPlace} (h : TrodC enc w n 25 cs x) (hw : Wt Tryz.prog 25 x.1) : ∃ (s : Sl) (ys : List Int), cs = [.slice s.a s.n s.c] ∧ RdInts w s ys :=
  open_rd Tryz.underlying25 cellsOf3 (by decide) (by kernel_rfl : Tryz.prog.bytesOf 3 = 8) (by decide) (fun n cs x h _ => by
    obtain ⟨y, rfl⟩ := openI h
    exact ⟨y, rfl, rfl⟩) h hw
theorem openRgs {n : Nat} {cs : List Value} {x : DataW H × List MemPlace} (h : TrodC enc w n 22 cs x) (hw : Wt Tryz.prog 22 x.1) : ∃ (s : Sl) (ys : List Rg), cs = [.slice s.a s.n s.c] ∧ RdRgs w s ys :=
  open_rd Tryz.underlying22 cellsOf65 (by decide) (by kernel_rfl : Tryz.prog.bytesOf 65 = 16) (by decide) (fun n cs x h _ => by
    obtain ⟨y, h1, rfl⟩ := openRg h
    exact ⟨y, rfl, rfl⟩) h hw
theorem openBoards {n : Nat} {cs : List Value} {x : DataW H × List MemPlace} (h : TrodC enc w n 23 cs x) (hw : Wt Tryz.prog 23 x.1) : ∃ (s : Sl) (ys : List BoardD), cs = [.slice s.a s.n s.c] ∧ Rd (encR BoardD.cs) 2 w s ys :=
  open_rd Tryz.underlying23 (by kernel_rfl : Tryz.prog.cellsOf 181 = 2) (by decide) (by kernel_rfl : Tryz.prog.bytesOf 181 = 16) (by decide) (fun n cs x h _ => by
    obtain ⟨xs, k, _, _, hl, hxl, hf⟩ := DataW.trod_struct Tryz.underlying181 h
    rw [(by kernel_rfl : Tryz.prog.cellsOf 181 = 2)] at hl
    obtain ⟨y0, y1, rfl⟩ := len2 (show xs.length = 2 from hxl)
    obtain ⟨a, b, rfl⟩ := len2 hl
    have g0 : TrodC enc w k 3 (List.take (Tryz.prog.cellsOf 3) (List.drop 0 [a, b])) y0 := hf 0 _ rfl
    have g1 : TrodC enc w k 3 (List.take (Tryz.prog.cellsOf 3) (List.drop 1 [a, b])) y1 := hf 1 _ rfl
    simp only [cellsOf3] at g0 g1
    obtain ⟨p, hp⟩ := openI g0
    obtain ⟨q, hq⟩ := openI g1
    simp at hp hq
    exact ⟨⟨p, q⟩, rfl, by show _ = _; rw [hp, hq]⟩) h hw
theorem openCakes {n : Nat} {cs : List Value} {x : DataW H × List MemPlace} (h : TrodC enc w n 24 cs x) (hw : Wt Tryz.prog 24 x.1) : ∃ (s : Sl) (ys : List CakeD), cs = [.slice s.a s.n s.c] ∧ Rd (encR CakeD.cs) 4 w s ys :=
  open_rd Tryz.underlying24 (by kernel_rfl : Tryz.prog.cellsOf 184 = 4) (by decide) (by kernel_rfl : Tryz.prog.bytesOf 184 = 32) (by decide) (fun n cs x h _ => by
    obtain ⟨xs, k, _, _, hl, hxl, hf⟩ := DataW.trod_struct Tryz.underlying184 h
    rw [(by kernel_rfl : Tryz.prog.cellsOf 184 = 4)] at hl
    obtain ⟨y0, y1, y2, rfl⟩ := len3 (show xs.length = 3 from hxl)
    obtain ⟨a, b, c, d, rfl⟩ := len4 hl
    have g0 : TrodC enc w k 3 (List.take (Tryz.prog.cellsOf 3) (List.drop 0 [a, b, c, d])) y0 := hf 0 _ rfl
    have g1 : TrodC enc w k 65 (List.take (Tryz.prog.cellsOf 65) (List.drop 1 [a, b, c, d])) y1 := hf 1 _ rfl
    have g2 : TrodC enc w k 3 (List.take (Tryz.prog.cellsOf 3) (List.drop 3 [a, b, c, d])) y2 := hf 2 _ rfl
    simp only [cellsOf3, cellsOf65] at g0 g1 g2
    obtain ⟨p, hp⟩ := openI g0
    obtain ⟨r, _, hr⟩ := openRg g1
    obtain ⟨q, hq⟩ := openI g2
    simp at hp hr hq
    exact ⟨⟨p, r, q⟩, rfl, by show _ = _; rw [hp, hr.1, hr.2, hq]⟩) h hw
theorem openWeight {n : Nat} {cs : List Value} {x : DataW H × List MemPlace} (h : TrodC enc w n 114 cs x) : ∃ y : WeightD, cs.length = 4 ∧ cs = y.cs := by
  obtain ⟨xs, k, _, _, hl, hxl, hf⟩ := DataW.trod_struct Tryz.underlying114 h
  rw [(by kernel_rfl : Tryz.prog.cellsOf 114 = 4)] at hl
  obtain ⟨y0, y1, y2, rfl⟩ := len3 (show xs.length = 3 from hxl)
  obtain ⟨a, b, c, d, rfl⟩ := len4 hl
  have g0 : TrodC enc w k 3 (List.take (Tryz.prog.cellsOf 3) (List.drop 0 [a, b, c, d])) y0 := hf 0 _ rfl
  have g1 : TrodC enc w k 3 (List.take (Tryz.prog.cellsOf 3) (List.drop 1 [a, b, c, d])) y1 := hf 1 _ rfl
  have g2 : TrodC enc w k 65 (List.take (Tryz.prog.cellsOf 65) (List.drop 2 [a, b, c, d])) y2 := hf 2 _ rfl
  simp only [cellsOf3, cellsOf65] at g0 g1 g2
  obtain ⟨p, hp⟩ := openI g0
  obtain ⟨q, hq⟩ := openI g1
  obtain ⟨r, _, hr⟩ := openRg g2
  simp at hp hr hq
  exact ⟨⟨p, q, r⟩, rfl, by rw [hp, hr.1, hr.2, hq]⟩
theorem openWeights {n : Nat} {cs : List Value} {x : DataW H × List MemPlace} (h : TrodC enc w n 26 cs x) (hw : Wt Tryz.prog 26 x.1) : ∃ (s : Sl) (ys : List WeightD), cs = [.slice s.a s.n s.c] ∧ Rd (encR WeightD.cs) 4 w s ys :=
  open_rd Tryz.underlying26 (by kernel_rfl : Tryz.prog.cellsOf 114 = 4) (by decide) (by kernel_rfl : Tryz.prog.bytesOf 114 = 32) (by decide) (fun n cs x h _ => by
    obtain ⟨y, h1, h2⟩ := openWeight h
    exact ⟨y, h1, h2⟩) h hw
theorem openNote {n : Nat} {cs : List Value} {x : DataW H × List MemPlace} (h : TrodC enc w n 107 cs x) : ∃ y : NoteD, cs.length = 3 ∧ cs = y.cs := by
  obtain ⟨xs, k, _, _, hl, hxl, hf⟩ := DataW.trod_struct Tryz.underlying107 h
  rw [(by kernel_rfl : Tryz.prog.cellsOf 107 = 3)] at hl
  obtain ⟨y0, y1, rfl⟩ := len2 (show xs.length = 2 from hxl)
  obtain ⟨a, b, c, rfl⟩ := len3 hl
  have g0 : TrodC enc w k 3 (List.take (Tryz.prog.cellsOf 3) (List.drop 0 [a, b, c])) y0 := hf 0 _ rfl
  have g1 : TrodC enc w k 65 (List.take (Tryz.prog.cellsOf 65) (List.drop 1 [a, b, c])) y1 := hf 1 _ rfl
  simp only [cellsOf3, cellsOf65] at g0 g1
  obtain ⟨p, hp⟩ := openI g0
  obtain ⟨r, _, hr⟩ := openRg g1
  simp at hp hr
  exact ⟨⟨p, r⟩, rfl, by rw [hp, hr.1, hr.2]⟩
theorem openNotes {n : Nat} {cs : List Value} {x : DataW H × List MemPlace} (h : TrodC enc w n 31 cs x) (hw : Wt Tryz.prog 31 x.1) : ∃ (s : Sl) (ys : List NoteD), cs = [.slice s.a s.n s.c] ∧ Rd (encR NoteD.cs) 3 w s ys :=
  open_rd Tryz.underlying31 (by kernel_rfl : Tryz.prog.cellsOf 107 = 3) (by decide) (by kernel_rfl : Tryz.prog.bytesOf 107 = 24) (by decide) (fun n cs x h _ => by
    obtain ⟨y, h1, h2⟩ := openNote h
    exact ⟨y, h1, h2⟩) h hw
theorem openSales {n : Nat} {cs : List Value} {x : DataW H × List MemPlace} (h : TrodC enc w n 29 cs x) (hw : Wt Tryz.prog 29 x.1) : ∃ (s : Sl) (ys : List SaleD), cs = [.slice s.a s.n s.c] ∧ Rd (encR SaleD.cs) 3 w s ys :=
  open_rd Tryz.underlying29 (by kernel_rfl : Tryz.prog.cellsOf 93 = 3) (by decide) (by kernel_rfl : Tryz.prog.bytesOf 93 = 24) (by decide) (fun n cs x h _ => by
    obtain ⟨xs, k, _, _, hl, hxl, hf⟩ := DataW.trod_struct Tryz.underlying93 h
    rw [(by kernel_rfl : Tryz.prog.cellsOf 93 = 3)] at hl
    obtain ⟨y0, y1, rfl⟩ := len2 (show xs.length = 2 from hxl)
    obtain ⟨a, b, c, rfl⟩ := len3 hl
    have g0 : TrodC enc w k 3 (List.take (Tryz.prog.cellsOf 3) (List.drop 0 [a, b, c])) y0 := hf 0 _ rfl
    have g1 : TrodC enc w k 65 (List.take (Tryz.prog.cellsOf 65) (List.drop 1 [a, b, c])) y1 := hf 1 _ rfl
    simp only [cellsOf3, cellsOf65] at g0 g1
    obtain ⟨p, hp⟩ := openI g0
    obtain ⟨r, _, hr⟩ := openRg g1
    simp at hp hr
    exact ⟨⟨p, r⟩, rfl, by show _ = _; rw [hp, hr.1, hr.2]⟩) h hw
theorem openChests {n : Nat} {cs : List Value} {x : DataW H × List MemPlace} (h : TrodC enc w n 30 cs x) (hw : Wt Tryz.prog 30 x.1) : ∃ (s : Sl) (ys : List ChestD), cs = [.slice s.a s.n s.c] ∧ Rd chestR 2 w s ys :=
  open_rd Tryz.underlying30 (by kernel_rfl : Tryz.prog.cellsOf 87 = 2) (by decide) (by kernel_rfl : Tryz.prog.bytesOf 87 = 32) (by decide) (fun n cs x h hw => by
    obtain ⟨xs, k, _, hx, hl, hxl, hf⟩ := DataW.trod_struct Tryz.underlying87 h
    rw [(by kernel_rfl : Tryz.prog.cellsOf 87 = 2)] at hl
    obtain ⟨y0, y1, rfl⟩ := len2 (show xs.length = 2 from hxl)
    obtain ⟨a, b, rfl⟩ := len2 hl
    have g0 : TrodC enc w k 25 (List.take (Tryz.prog.cellsOf 25) (List.drop 0 [a, b])) y0 := hf 0 _ rfl
    have g1 : TrodC enc w k 3 (List.take (Tryz.prog.cellsOf 3) (List.drop 1 [a, b])) y1 := hf 1 _ rfl
    simp only [cellsOf3, cellsOf25] at g0 g1
    rw [hx] at hw
    have w0 : Wt Tryz.prog 25 y0.1 := Wt.field Tryz.underlying87 hw (j := 0) rfl rfl
    obtain ⟨s, ys, hs, hr⟩ := openInts g0 w0
    obtain ⟨q, hq⟩ := openI g1
    simp at hs hq
    exact ⟨⟨ys, q⟩, rfl, s, by show _ = _; rw [hs, hq], hr⟩) h hw
theorem openLoft {n : Nat} {cs : List Value} {x : DataW H × List MemPlace} (h : TrodC enc w n 28 cs x) (hw : Wt Tryz.prog 28 x.1) : ∃ (v : LoftV) (l : LoftD), cs = v.cs.toList ∧ RdLoft w v l := by
  obtain ⟨xs, k, _, hx, hl, hxl, hf⟩ := DataW.trod_struct Tryz.underlying28 h
  rw [cellsOf28] at hl
  obtain ⟨y0, y1, y2, y3, y4, y5, rfl⟩ := len6 (show xs.length = 6 from hxl)
  obtain ⟨a, b, c, d, e, f, rfl⟩ := len6 hl
  have g0 : TrodC enc w k 3 (List.take (Tryz.prog.cellsOf 3) (List.drop 0 [a, b, c, d, e, f])) y0 := hf 0 _ rfl
  have g1 : TrodC enc w k 22 (List.take (Tryz.prog.cellsOf 22) (List.drop 1 [a, b, c, d, e, f])) y1 := hf 1 _ rfl
  have g2 : TrodC enc w k 23 (List.take (Tryz.prog.cellsOf 23) (List.drop 2 [a, b, c, d, e, f])) y2 := hf 2 _ rfl
  have g3 : TrodC enc w k 24 (List.take (Tryz.prog.cellsOf 24) (List.drop 3 [a, b, c, d, e, f])) y3 := hf 3 _ rfl
  have g4 : TrodC enc w k 25 (List.take (Tryz.prog.cellsOf 25) (List.drop 4 [a, b, c, d, e, f])) y4 := hf 4 _ rfl
  have g5 : TrodC enc w k 26 (List.take (Tryz.prog.cellsOf 26) (List.drop 5 [a, b, c, d, e, f])) y5 := hf 5 _ rfl
  simp only [cellsOf3, cellsOf22, cellsOf23, cellsOf24, cellsOf25, cellsOf26] at g0 g1 g2 g3 g4 g5
  rw [hx] at hw
  obtain ⟨p, hp⟩ := openI g0
  obtain ⟨s1, l1, h1, r1⟩ := openRgs g1 (Wt.field Tryz.underlying28 hw (j := 1) rfl rfl)
  obtain ⟨s2, l2, h2, r2⟩ := openBoards g2 (Wt.field Tryz.underlying28 hw (j := 2) rfl rfl)
  obtain ⟨s3, l3, h3, r3⟩ := openCakes g3 (Wt.field Tryz.underlying28 hw (j := 3) rfl rfl)
  obtain ⟨s4, l4, h4, r4⟩ := openInts g4 (Wt.field Tryz.underlying28 hw (j := 4) rfl rfl)
  obtain ⟨s5, l5, h5, r5⟩ := openWeights g5 (Wt.field Tryz.underlying28 hw (j := 5) rfl rfl)
  simp at hp h1 h2 h3 h4 h5
  exact ⟨⟨p, s1, s2, s3, s4, s5⟩, ⟨p, l1, l2, l3, l4, l5⟩, by show _ = [_, _, _, _, _, _]; rw [hp, h1, h2, h3, h4, h5], rfl, r1, r2, r3, r4, r5⟩
theorem openMkt {n : Nat} {cs : List Value} {x : DataW H × List MemPlace} (h : TrodC enc w n 33 cs x) (hw : Wt Tryz.prog 33 x.1) : ∃ (v : MktV) (m : MktD), cs = v.cs.toList ∧ RdMkt w v m := by
  obtain ⟨xs, k, _, hx, hl, hxl, hf⟩ := DataW.trod_struct Tryz.underlying33 h
  rw [(by kernel_rfl : Tryz.prog.cellsOf 33 = 11)] at hl
  obtain ⟨y0, y1, y2, y3, y4, y5, rfl⟩ := len6 (show xs.length = 6 from hxl)
  obtain ⟨a0, a1, a2, a3, a4, a5, b, c, d, e, f, rfl⟩ := len11 hl
  have g0 : TrodC enc w k 28 (List.take (Tryz.prog.cellsOf 28) (List.drop 0 [a0, a1, a2, a3, a4, a5, b, c, d, e, f])) y0 := hf 0 _ rfl
  have g1 : TrodC enc w k 29 (List.take (Tryz.prog.cellsOf 29) (List.drop 6 [a0, a1, a2, a3, a4, a5, b, c, d, e, f])) y1 := hf 1 _ rfl
  have g2 : TrodC enc w k 30 (List.take (Tryz.prog.cellsOf 30) (List.drop 7 [a0, a1, a2, a3, a4, a5, b, c, d, e, f])) y2 := hf 2 _ rfl
  have g3 : TrodC enc w k 3 (List.take (Tryz.prog.cellsOf 3) (List.drop 8 [a0, a1, a2, a3, a4, a5, b, c, d, e, f])) y3 := hf 3 _ rfl
  have g4 : TrodC enc w k 3 (List.take (Tryz.prog.cellsOf 3) (List.drop 9 [a0, a1, a2, a3, a4, a5, b, c, d, e, f])) y4 := hf 4 _ rfl
  have g5 : TrodC enc w k 31 (List.take (Tryz.prog.cellsOf 31) (List.drop 10 [a0, a1, a2, a3, a4, a5, b, c, d, e, f])) y5 := hf 5 _ rfl
  simp only [cellsOf3, cellsOf28, cellsOf29, cellsOf30, cellsOf31] at g0 g1 g2 g3 g4 g5
  rw [hx] at hw
  obtain ⟨lv, ld, h0, r0⟩ := openLoft g0 (Wt.field Tryz.underlying33 hw (j := 0) rfl rfl)
  obtain ⟨s1, l1, h1, r1⟩ := openSales g1 (Wt.field Tryz.underlying33 hw (j := 1) rfl rfl)
  obtain ⟨s2, l2, h2, r2⟩ := openChests g2 (Wt.field Tryz.underlying33 hw (j := 2) rfl rfl)
  obtain ⟨p, hp⟩ := openI g3
  obtain ⟨q, hq⟩ := openI g4
  obtain ⟨s5, l5, h5, r5⟩ := openNotes g5 (Wt.field Tryz.underlying33 hw (j := 5) rfl rfl)
  simp at h0 h1 h2 hp hq h5
  obtain ⟨e0, e1, e2, e3, e4, e5⟩ := h0
  exact ⟨⟨lv, s1, s2, p, q, s5⟩, ⟨ld, l1, l2, p, q, l5⟩, by show _ = [_, _, _, _, _, _, _, _, _, _, _]; rw [e0, e1, e2, e3, e4, e5, h1, h2, hp, hq, h5], r0, r1, r2, rfl, rfl, r5⟩

set_option maxRecDepth 100000 in
theorem openArg_mkt {v : Value} {d : DataW H} {p : List MemPlace} {r : Reach} {base : Nat} (hok : Value.okWide Tryz.prog w r base 33 v) (h : DataW.Trod enc Tryz.prog w 0 (fun _ => true) true 33 v d p) (hw : Wt Tryz.prog 33 d) : ∃ (mv : MktV) (m : MktD), v = .agg mv.cs ∧ RdMkt w mv m := by
  obtain ⟨cs, rfl, hs⟩ := okWide_struct Tryz.underlying33 hok
  obtain ⟨fuel, hf⟩ := h
  obtain ⟨mv, m, hc, hr⟩ := openMkt hf hw
  have hc' : cs.toList = mv.cs.toList := hc
  obtain rfl : cs = mv.cs := by apply Array.toList_inj.1; exact hc'
  exact ⟨mv, m, rfl, hr⟩
end
end Go.Proofs.YtenfnakhijobkaaGreat
namespace Go.Proofs.YtenfnakhijobkaaGreat
open Go
theorem and_i {a b : Bool} (ha : a = true) (hb : b = true) : (a && b) = true := by rw [ha, hb]; rfl
theorem closed1 : (laidOutB Tryz.prog) = true := by kernel_rfl
theorem closed2 : (mapsRowed Tryz.prog) = true := by kernel_rfl
theorem closed6 : ((Tryz.prog.stops == [])) = true := by kernel_rfl
theorem closed8 : ((Tryz.prog.stopKnobs == [])) = true := by kernel_rfl
theorem closed22 : ((Rows.saleReadyRow.plainKeys == Tryz.prog.plainKeys)) = true := by kernel_rfl
theorem closed24 : (Tryz.prog.stopsHeard) = true := by kernel_rfl
theorem closed25 : (Tryz.prog.mayEnter) = true := by kernel_rfl
theorem closed26 : ((Rows.saleReadyRow.lifted == Tryz.prog.liftsFinal)) = true := by kernel_rfl
theorem closed27 : ((Tryz.prog.make == some Rows.saleReadyRow.make)) = true := by kernel_rfl
end Go.Proofs.YtenfnakhijobkaaGreat
