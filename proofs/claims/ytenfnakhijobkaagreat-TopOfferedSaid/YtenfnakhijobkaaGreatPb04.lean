/- The bounds of what a cake's wetness is in all truths, and whether it is dry. Conditions: the loft at work reads as it does. Whether a cake is dry in all truths. Conditions: the loft at work reads as it does. The sure day of a cake on a shelf, remembered in a map. Conditions: the loft at work reads as it does; what the map remembers is so. All lists of numbers of ranges, in lexicographic order; each has a number. Conditions: none. A range over a function whose iterator keeps state of its own in cells: what the iterator promises, and the loop's law. Conditions: as stated. The iterator over all truths of a loft, right or not. Conditions: the loft reads as it does and has no fault. The iterator over all truths of a loft. Conditions: the loft reads as it does and has no fault. -/
import Derived.Test.YtenfnakhijobkaaGreatPb01
import Derived.Test.YtenfnakhijobkaaGreatPb03
import Derived.RangeFuncNested
import Derived.RangeFuncLeaves
import Derived.OwnWalkIn
import Derived.TacticsInMore
import Derived.LoopNIn
import Derived.LoopIn
import Derived.Laws.EntriesVeiled
set_option linter.unusedVariables false
set_option linter.unusedSimpArgs false
namespace Go.Proofs.YtenfnakhijobkaaGreat
open Go.RowKit Go.Proofs.YtenfnakhijobkaaGreatW.PrintLast
abbrev arrCs (t : TruthD) : List Value := (numsC (numsF t)).toList
/-- A loft at work, in block B: the loft, its truths (the known days apart). -/
structure RdWork (w : World) (B : Nat) (v : LoftV) (l : LoftD) (s : Sl) (ts : List TruthD) : Prop where
  lt : B < w.heap.size
  cells : ∀ (i : Nat) (x : Value), v.cs[i]? = some x → w.cell? ⟨B, i, none⟩ = some x
  truth : w.cell? ⟨B, 6, none⟩ = some (.slice s.a s.n s.c)
  loft : RdLoft w v l
  ts : Rd (encR arrCs) 11 w s ts
theorem RdWork.below {w w' : World} {B : Nat} {v : LoftV} {l : LoftD} {s : Sl} {ts : List TruthD} (h : RdWork w B v l s ts) (hb : Below w.heap.size w w') : RdWork w' B v l s ts :=
  ⟨Nat.lt_of_lt_of_le h.lt hb.size, fun i x hx => lift hb (h.cells i x hx), lift hb h.truth, h.loft.below hb, h.ts.below (encR_mono _) hb⟩
def bndL : List Int → Rg
  | [] => ⟨0, 0⟩
  | a :: xs => xs.foldl Rg.wider ⟨a, a⟩
theorem bndL_snoc {xs : List Int} {a : Int} (h : xs ≠ []) : bndL (xs ++ [a]) = (bndL xs).wider a := by
  cases xs with
  | nil => exact absurd rfl h
  | cons x xs => simp [bndL]
/-- What the wetness of a cake is in a truth, at an index of a day. -/
def wetN (l : LoftD) (draft : Int) (come : Nat) (k j : Nat) (t : TruthD) : Int := min (leftN (t.water.getD k 0) draft t.air come (j + 1)) 1
set_option maxHeartbeats 4000000 in
set_option maxRecDepth 100000 in
theorem bounds_any (B : Nat) (v : LoftV) (l : LoftD) (sl : Sl) (ts : List TruthD) (hl : LOk l) (ht : ∀ t ∈ ts, TOk l t) (s k : Nat) (bd : BoardD) (ck : CakeD) (hs : l.shelves[s]? = some bd) (hk : l.cakes[k]? = some ck) (come : Nat) (hcome : ck.come = come) (n j : Nat) (hn : come + n = l.air.length) (hj : j < n)
    (w : World) (h : RdWork w B v l sl ts) :
    Calls Tryz.prog 184 #[.agg #[.func (.func 183) #[] #[]], .pointer (some ⟨B, 0, none⟩), .agg #[.int .i64 k, .int .i64 s], .int .i64 j] w fun e w' => e = .returned (.agg (bndL (ts.map (wetN l bd.draft come k j))).cs.toArray) ∧ Below w.heap.size w w' := by
  obtain ⟨sa, sn, sc⟩ := sl
  have HLt : Hid (ts.length = sn) := h.ts.len
  have hsn : sn ≤ 281474976710656 := by have := h.ts.small; simp at this; omega
  have hj6 : j ≤ 6 := by have := hl.air; have := hl.last5; omega
  have HS := Lib.hid hs
  have HK := Lib.hid hk
  have HC := Lib.hid hcome
  have HN := Lib.hid hn
  have HT := Lib.hid ht
  have HJ := Lib.hid hj
  clear hs hk hcome hn ht hj
  obtain ⟨W0, hNW0, BX, hW0, hzW0⟩ := Box.named w #[.func (.func 183) #[] #[]] 253
  obtain ⟨W1, hNW1, BX1, hW1, hzW1⟩ := Box.named W0 #[.int .i64 (k : Int), .int .i64 (s : Int)] 194
  obtain ⟨W2, hNW2, BX2, hW2, hzW2⟩ := Box.named W1 #[.int .i64 0, .int .i64 0] 178
  have hw2 := below_on (below_on hW0 hW1) hW2
  have c6 := lift hw2 h.truth
  simp only at c6
  go_enter Tryz.func184, Tryz.ntmps184
  go_wp2
  clear hNW0 hNW1 hNW2 c6
  go_loopw [17] (fun i wr => ∃ q : Nat, ∃ lo hi : Int, q ≤ sn ∧ i = .int .i64 q ∧ Box wr W1.heap.size #[.int .i64 lo, .int .i64 hi] 178 ∧ Hid ((⟨lo, hi⟩ : Rg) = bndL ((ts.take q).map (wetN l bd.draft come k j))) ∧ Below W1.heap.size W1 wr) (fun i _ => sn - (intOf i).toNat)
  case atStart => exact ⟨0, 0, 0, Nat.zero_le _, rfl, BX2, by show _ = _; simp [bndL], hW2⟩
  case round =>
    obtain ⟨q, lo, hi, hq, rfl, BR, hbd, hb⟩ := hrel
    have hw := below_on (below_on hW0 hW1) hb
    have HR := Lib.hid (h.below hw)
    by_cases hlt : q < sn
    · obtain ⟨t, htq⟩ := at_of_lt HLt.out hlt
      obtain ⟨b, o, cs, ha, hbl, hll, hcs, hcc⟩ := HR.out.ts.cells q t htq
      cases hcs
      simp only at ha
      subst ha
      have hok := HT.out t (List.mem_of_getElem? htq)
      have hwl : t.water[k]? = some (t.water.getD k 0) := by
        rw [List.getD_eq_getElem?_getD]
        have : k < t.water.length := by rw [hok.nw]; exact lt_of_at HK.out
        rw [List.getElem?_eq_getElem this]; rfl
      have HTQ := Lib.hid htq
      obtain ⟨f, hf⟩ : ∃ f, numsF t = f := ⟨_, rfl⟩
      have HF := Lib.hid hf
      clear hf htq hll
      have n0 : wr.cell? ⟨b, o + q * 11, none⟩ = some (.int .i64 (f 0)) := hcc 0 (.int .i64 (f 0)) (by rw [← HF.out]; rfl)
      have n1 := hcc 1 (.int .i64 (f 1)) (by rw [← HF.out]; rfl)
      have n2 := hcc 2 (.int .i64 (f 2)) (by rw [← HF.out]; rfl)
      have n3 := hcc 3 (.int .i64 (f 3)) (by rw [← HF.out]; rfl)
      have n4 := hcc 4 (.int .i64 (f 4)) (by rw [← HF.out]; rfl)
      have n5 := hcc 5 (.int .i64 (f 5)) (by rw [← HF.out]; rfl)
      have n6 := hcc 6 (.int .i64 (f 6)) (by rw [← HF.out]; rfl)
      have n7 := hcc 7 (.int .i64 (f 7)) (by rw [← HF.out]; rfl)
      have n8 := hcc 8 (.int .i64 (f 8)) (by rw [← HF.out]; rfl)
      have n9 := hcc 9 (.int .i64 (f 9)) (by rw [← HF.out]; rfl)
      have n10 := hcc 10 (.int .i64 (f 10)) (by rw [← HF.out]; rfl)
      obtain ⟨W3, hNW3, BX3, hW3, hzW3⟩ := Box.named wr (numsC f) 228
      have hb3 := below_on hb hW3
      have hw3 := below_on hw hW3
      have HR3 := Lib.hid (HR.out.below hW3)
      have c0 := HR3.out.cells 0 _ rfl
      have c1 := HR3.out.cells 1 _ rfl
      have c2 := HR3.out.cells 2 _ rfl
      have c3 := HR3.out.cells 3 _ rfl
      have c4 := HR3.out.cells 4 _ rfl
      have c5 := HR3.out.cells 5 _ rfl
      have m0 := BX3.cell 0 (.int .i64 (f 0)) rfl
      have m1 := BX3.cell 1 (.int .i64 (f 1)) rfl
      have m2 := BX3.cell 2 (.int .i64 (f 2)) rfl
      have m3 := BX3.cell 3 (.int .i64 (f 3)) rfl
      have m4 := BX3.cell 4 (.int .i64 (f 4)) rfl
      have m5 := BX3.cell 5 (.int .i64 (f 5)) rfl
      have m6 := BX3.cell 6 (.int .i64 (f 6)) rfl
      have m7 := BX3.cell 7 (.int .i64 (f 7)) rfl
      have m8 := BX3.cell 8 (.int .i64 (f 8)) rfl
      have m9 := BX3.cell 9 (.int .i64 (f 9)) rfl
      have m10 := BX3.cell 10 (.int .i64 (f 10)) rfl
      have q0 := (((BX.lift hW1)).lift hb3).cell 0 (.func (.func 183) #[] #[]) rfl
      have p0 := (BX1.lift hb3).cell 0 (.int .i64 k) rfl
      have p1 := (BX1.lift hb3).cell 1 (.int .i64 s) rfl
      have hL := left_any v l t hl hok s k bd ck HS.out HK.out come HC.out _ hwl n HN.out W3.drew (HR3.out.loft.below (below_drew W3))
      rw [HF.out] at hL
      have HL := Lib.hid hL
      clear hL hwl hcc
      obtain ⟨a, hA⟩ : ∃ a, wetN l bd.draft come k j t = a := ⟨_, rfl⟩
      have HA := Lib.hid hA
      clear hA
      go_wp2
      clear hNW3 n0 n1 n2 n3 n4 n5 n6 n7 n8 n9 n10
      refine start_ (n := 12) (S := fun w' => w'.cell? ⟨w.heap.size, 0, none⟩ = some (.func (.func 183) #[] #[]) ∧ w'.cell? ⟨B, 0, none⟩ = some (.int .i64 v.last) ∧ w'.cell? ⟨B, 1, none⟩ = some (.slice v.air.a v.air.n v.air.c) ∧ w'.cell? ⟨B, 2, none⟩ = some (.slice v.shelves.a v.shelves.n v.shelves.c) ∧ w'.cell? ⟨B, 3, none⟩ = some (.slice v.cakes.a v.cakes.n v.cakes.c) ∧ w'.cell? ⟨B, 4, none⟩ = some (.slice v.put.a v.put.n v.put.c) ∧ w'.cell? ⟨B, 5, none⟩ = some (.slice v.weights.a v.weights.n v.weights.c) ∧ w'.cell? ⟨wr.heap.size, 0, none⟩ = some (.int .i64 (f 0)) ∧ w'.cell? ⟨wr.heap.size, 1, none⟩ = some (.int .i64 (f 1)) ∧ w'.cell? ⟨wr.heap.size, 2, none⟩ = some (.int .i64 (f 2)) ∧ w'.cell? ⟨wr.heap.size, 3, none⟩ = some (.int .i64 (f 3)) ∧ w'.cell? ⟨wr.heap.size, 4, none⟩ = some (.int .i64 (f 4)) ∧ w'.cell? ⟨wr.heap.size, 5, none⟩ = some (.int .i64 (f 5)) ∧ w'.cell? ⟨wr.heap.size, 6, none⟩ = some (.int .i64 (f 6)) ∧ w'.cell? ⟨wr.heap.size, 7, none⟩ = some (.int .i64 (f 7)) ∧ w'.cell? ⟨wr.heap.size, 8, none⟩ = some (.int .i64 (f 8)) ∧ w'.cell? ⟨wr.heap.size, 9, none⟩ = some (.int .i64 (f 9)) ∧ w'.cell? ⟨wr.heap.size, 10, none⟩ = some (.int .i64 (f 10)) ∧ w'.cell? ⟨W0.heap.size, 0, none⟩ = some (.int .i64 (k : Int)) ∧ w'.cell? ⟨W0.heap.size, 1, none⟩ = some (.int .i64 (s : Int))) (ds := []) #[false, false, false, false, false, false, false, false, false, false, false, false] (by kernel_rfl) rfl rfl ⟨q0, c0, c1, c2, c3, c4, c5, m0, m1, m2, m3, m4, m5, m6, m7, m8, m9, m10, p0, p1⟩ (fun hHeld => ?_)
      obtain ⟨s0, s1, s2, s3, s4, s5, s6, s7, s8, s9, s10, s11, s12, s13, s14, s15, s16, s17, s18, s19⟩ := hHeld
      refine pure_ (i := 0) (N := some 22) (v := ?_) (a' := ?_) #[true, false, false, false, false, false, false, false, false, false, false, false] rfl rfl (by kernel_rfl) (fun _ _ _ h => h) (Or.inl ⟨by rfl, ?_⟩) ?_ ?_
      rotate_left
      · intro w'
        go_simp
        with_reducible rfl
      rotate_left
      · simp only [Act.put, List.setIfInBounds_toArray, List.set_cons_zero, List.set_cons_succ, i64_w, i32_w]
        rfl
      refine pure_ (i := 2) (N := some 24) (v := ?_) (a' := ?_) #[true, false, true, false, false, false, false, false, false, false, false, false] rfl rfl (by kernel_rfl) (fun _ _ _ h => h) (Or.inl ⟨by rfl, ?_⟩) ?_ ?_
      rotate_left
      · intro w'
        go_simp
        with_reducible rfl
      rotate_left
      · simp only [Act.put, List.setIfInBounds_toArray, List.set_cons_zero, List.set_cons_succ, i64_w, i32_w]
        rfl
      refine pure_ (i := 3) (N := some 25) (v := ?_) (a' := ?_) #[true, false, true, true, false, false, false, false, false, false, false, false] rfl rfl (by kernel_rfl) (fun _ _ _ h => h) (Or.inl ⟨by rfl, ?_⟩) ?_ ?_
      rotate_left
      · intro w'
        go_simp
        with_reducible rfl
      rotate_left
      · simp only [Act.put, List.setIfInBounds_toArray, List.set_cons_zero, List.set_cons_succ, i64_w, i32_w]
        rfl
      refine pure_ (i := 4) (N := some 26) (v := ?_) (a' := ?_) #[true, false, true, true, true, false, false, false, false, false, false, false] rfl rfl (by kernel_rfl) (fun _ _ _ h => h) (Or.inl ⟨by rfl, ?_⟩) ?_ ?_
      rotate_left
      · intro w'
        go_simp
        with_reducible rfl
      rotate_left
      · simp only [Act.put, List.setIfInBounds_toArray, List.set_cons_zero, List.set_cons_succ, i64_w, i32_w]
        rfl
      refine pure_ (i := 9) (N := some 31) (v := ?_) (a' := ?_) #[true, false, true, true, true, false, false, false, false, true, false, false] rfl rfl (by kernel_rfl) (fun _ _ _ h => h) (Or.inl ⟨by rfl, ?_⟩) ?_ ?_
      rotate_left
      · intro w'
        go_simp
        with_reducible rfl
      rotate_left
      · simp only [Act.put, List.setIfInBounds_toArray, List.set_cons_zero, List.set_cons_succ, i64_w, i32_w]
        rfl
      refine take_ (i := 1) (N := some 23) (v := ?_) (a' := ?_) #[true, true, true, true, true, false, false, false, false, true, false, false] rfl rfl (by kernel_rfl) (fun _ _ _ h => h) (Or.inl ⟨by rfl, ?_⟩) ⟨s0, s1, s2, s3, s4, s5, s6, s7, s8, s9, s10, s11, s12, s13, s14, s15, s16, s17, s18, s19⟩ ?_ ?_
      rotate_left
      · rintro w' ⟨zs0, zs1, zs2, zs3, zs4, zs5, zs6, zs7, zs8, zs9, zs10, zs11, zs12, zs13, zs14, zs15, zs16, zs17, zs18, zs19⟩
        go_simp
        with_reducible rfl
      rotate_left
      · simp only [Act.put, List.setIfInBounds_toArray, List.set_cons_zero, List.set_cons_succ, i64_w, i32_w]
        rfl
      refine take_ (i := 5) (N := some 27) (v := ?_) (a' := ?_) #[true, true, true, true, true, true, false, false, false, true, false, false] rfl rfl (by kernel_rfl) (fun _ _ _ h => h) (Or.inl ⟨by rfl, ?_⟩) ⟨s0, s1, s2, s3, s4, s5, s6, s7, s8, s9, s10, s11, s12, s13, s14, s15, s16, s17, s18, s19⟩ ?_ ?_
      rotate_left
      · rintro w' ⟨zs0, zs1, zs2, zs3, zs4, zs5, zs6, zs7, zs8, zs9, zs10, zs11, zs12, zs13, zs14, zs15, zs16, zs17, zs18, zs19⟩
        go_simp
        with_reducible rfl
      rotate_left
      · simp only [Act.put, List.setIfInBounds_toArray, List.set_cons_zero, List.set_cons_succ, i64_w, i32_w]
        rfl
      refine take_ (i := 6) (N := some 28) (v := ?_) (a' := ?_) #[true, true, true, true, true, true, true, false, false, true, false, false] rfl rfl (by kernel_rfl) (fun _ _ _ h => h) (Or.inl ⟨by rfl, ?_⟩) ⟨s0, s1, s2, s3, s4, s5, s6, s7, s8, s9, s10, s11, s12, s13, s14, s15, s16, s17, s18, s19⟩ ?_ ?_
      rotate_left
      · rintro w' ⟨zs0, zs1, zs2, zs3, zs4, zs5, zs6, zs7, zs8, zs9, zs10, zs11, zs12, zs13, zs14, zs15, zs16, zs17, zs18, zs19⟩
        go_simp
        with_reducible rfl
      rotate_left
      · simp only [Act.put, List.setIfInBounds_toArray, List.set_cons_zero, List.set_cons_succ, i64_w, i32_w]
        rfl
      refine take_ (i := 7) (N := some 29) (v := ?_) (a' := ?_) #[true, true, true, true, true, true, true, true, false, true, false, false] rfl rfl (by kernel_rfl) (fun _ _ _ h => h) (Or.inl ⟨by rfl, ?_⟩) ⟨s0, s1, s2, s3, s4, s5, s6, s7, s8, s9, s10, s11, s12, s13, s14, s15, s16, s17, s18, s19⟩ ?_ ?_
      rotate_left
      · rintro w' ⟨zs0, zs1, zs2, zs3, zs4, zs5, zs6, zs7, zs8, zs9, zs10, zs11, zs12, zs13, zs14, zs15, zs16, zs17, zs18, zs19⟩
        go_simp
        with_reducible rfl
      rotate_left
      · simp only [Act.put, List.setIfInBounds_toArray, List.set_cons_zero, List.set_cons_succ, i64_w, i32_w]
        rfl
      refine one_ (i := 8) (N := some 30) #[true, true, true, true, true, true, true, true, true, true, false, false] rfl rfl (by kernel_rfl) (by decide) (fun K hK => ?_)
      refine goes_ Tryz.func181 (by kernel_rfl) rfl #[.agg v.cs, .agg (numsC f), .agg #[.int .i64 (k : Int), .int .i64 (s : Int)]] (by rfl) rfl rfl (by (try simp only [List.map_toArray, List.map_cons, List.map_nil]); first | done | rfl) ?_
      refine HL.out.mono ?_
      rintro e w4 ⟨rs, rfl, hfr, hb4⟩
      refine ⟨_, rfl, ?_⟩
      refine hK.out _ _ ⟨lift hb4 s0, lift hb4 s1, lift hb4 s2, lift hb4 s3, lift hb4 s4, lift hb4 s5, lift hb4 s6, lift hb4 s7, lift hb4 s8, lift hb4 s9, lift hb4 s10, lift hb4 s11, lift hb4 s12, lift hb4 s13, lift hb4 s14, lift hb4 s15, lift hb4 s16, lift hb4 s17, lift hb4 s18, lift hb4 s19⟩ (fun hHeld => ?_)
      clear hK K s0 s1 s2 s3 s4 s5 s6 s7 s8 s9 s10 s11 s12 s13 s14 s15 s16 s17 s18 s19
      obtain ⟨s0, s1, s2, s3, s4, s5, s6, s7, s8, s9, s10, s11, s12, s13, s14, s15, s16, s17, s18, s19⟩ := hHeld
      refine norm_ (a' := ?_) ?_ ?_
      rotate_left
      · show Act.put _ (some 30) _ = _
        simp only [Act.put, List.setIfInBounds_toArray, List.set_cons_zero, List.set_cons_succ, i64_w, i32_w]
        rfl
      refine one_ (i := 10) (N := some 32) #[true, true, true, true, true, true, true, true, true, true, true, false] rfl rfl (by kernel_rfl) (by decide) (fun K hK => ?_)
      refine goesV_ Tryz.func183 (by kernel_rfl) rfl #[.slice rs.a rs.n rs.c, .int .i64 (j : Int)] (by rfl) rfl rfl (by rfl) (by (try simp only [List.map_toArray, List.map_cons, List.map_nil]); first | done | rfl) ?_
      refine (call_val (wet_any rs _ j _ _ hfr.now (leftL_at HJ.out)) (u := .int .i64 a) (by rw [← HA.out]; rfl)).mono ?_
      rintro e w5 ⟨rfl, hb5⟩
      refine ⟨_, rfl, ?_⟩
      refine hK.out _ _ ⟨lift hb5 s0, lift hb5 s1, lift hb5 s2, lift hb5 s3, lift hb5 s4, lift hb5 s5, lift hb5 s6, lift hb5 s7, lift hb5 s8, lift hb5 s9, lift hb5 s10, lift hb5 s11, lift hb5 s12, lift hb5 s13, lift hb5 s14, lift hb5 s15, lift hb5 s16, lift hb5 s17, lift hb5 s18, lift hb5 s19⟩ (fun hHeld => ?_)
      clear hK K s0 s1 s2 s3 s4 s5 s6 s7 s8 s9 s10 s11 s12 s13 s14 s15 s16 s17 s18 s19
      obtain ⟨s0, s1, s2, s3, s4, s5, s6, s7, s8, s9, s10, s11, s12, s13, s14, s15, s16, s17, s18, s19⟩ := hHeld
      refine norm_ (a' := ?_) ?_ ?_
      rotate_left
      · show Act.put _ (some 32) _ = _
        simp only [Act.put, List.setIfInBounds_toArray, List.set_cons_zero, List.set_cons_succ, i64_w, i32_w]
        rfl
      refine pure_ (i := 11) (N := some 11) (v := ?_) (a' := ?_) #[true, true, true, true, true, true, true, true, true, true, true, true] rfl rfl (by kernel_rfl) (fun _ _ _ h => h) (Or.inl ⟨by rfl, ?_⟩) ?_ ?_
      rotate_left
      · intro w'
        go_simp
        with_reducible rfl
      rotate_left
      · simp only [Act.put, List.setIfInBounds_toArray, List.set_cons_zero, List.set_cons_succ, i64_w, i32_w]
        rfl
      refine done_ (by kernel_rfl) ?_
      have hb35 : Below W3.heap.size W3 w5 := below_on (below_on (below_drew W3) hb4) hb5
      have hbx := below_on hb3 hb35
      have BR5 := (BR.lift hW3).lift hb35
      have r0 := BR5.cell 0 (.int .i64 lo) rfl
      have r1 := BR5.cell 1 (.int .i64 hi) rfl
      have f0 := BR5.free 0
      have f1 := BR5.free 1
      by_cases hq0 : q = 0
      · subst hq0
        have BR6 := (BR5.set 0 (.int .i64 a)).set 1 (.int .i64 a)
        go_wp2_with (go_at_call 201; refine (wider_any a a a _).mono ?_; rintro e w6 ⟨rfl, hb6⟩; have r2 := (BR6.lift hb6).cell 0 (.int .i64 a) rfl; have r3 := (BR6.lift hb6).cell 1 (.int .i64 a) rfl; have f2 := (BR6.lift hb6).free 0; have f3 := (BR6.lift hb6).free 1)
        go_roundw
        case measure => simp [intOf]; omega
        case rel => exact ⟨1, _, _, by omega, by go_num, ((BR6.lift hb6).set 0 _).set 1 _, by
          show _ = _
          rw [show (1 : Nat) = 0 + 1 from rfl, List.take_add_one, HTQ.out]
          simp [bndL, HA.out], below_set (below_set (below_on (below_set (below_set hbx (Nat.le_refl _) _) (Nat.le_refl _) _) hb6) (Nat.le_refl _) _) (Nat.le_refl _) _⟩
      · have hqb : ((q : Int) == 0) = false := by simp; omega
        have HQ0 := Lib.hid hq0
        clear hq0
        go_wp2_with (go_at_call 201; refine (wider_any lo hi a _).mono ?_; rintro e w6 ⟨rfl, hb6⟩; have r2 := (BR5.lift hb6).cell 0 (.int .i64 lo) rfl; have r3 := (BR5.lift hb6).cell 1 (.int .i64 hi) rfl; have f2 := (BR5.lift hb6).free 0; have f3 := (BR5.lift hb6).free 1)
        go_roundw
        case measure => simp [intOf]; omega
        case rel => exact ⟨q + 1, _, _, by omega, by go_num, ((BR5.lift hb6).set 0 _).set 1 _, by
          show _ = _
          have hne : (ts.take q).map (wetN l bd.draft come k j) ≠ [] := by
            have := lt_of_at HTQ.out
            have := HQ0.out
            intro e
            have := congrArg List.length e
            rw [List.length_map, List.length_take, List.length_nil] at this
            omega
          rw [List.take_add_one, HTQ.out]
          simp only [List.map_append, Option.toList, List.map_cons, List.map_nil, HA.out]
          rw [bndL_snoc hne, ← hbd.out]; rfl, below_set (below_set (below_on hbx hb6) (Nat.le_refl _) _) (Nat.le_refl _) _⟩
    · obtain rfl : q = sn := by omega
      have HB : Hid ((⟨lo, hi⟩ : Rg) = bndL (ts.map (wetN l bd.draft come k j))) := by
        have h1 := hbd.out
        rwa [take_len HLt.out] at h1
      clear hbd
      have r0 := BR.cell 0 (.int .i64 lo) rfl
      have r1 := BR.cell 1 (.int .i64 hi) rfl
      have f0 := BR.free 0
      have f1 := BR.free 1
      go_wp2
      have B6 := (BR.set 0 (.int .i64 lo)).set 1 (.int .i64 hi)
      have z0 := B6.cell 0 (.int .i64 lo) rfl
      have z1 := B6.cell 1 (.int .i64 hi) rfl
      refine bodyPost_ret (v := .agg #[.int .i64 lo, .int .i64 hi]) (by simp [results, Tryz.results184, go_sem, z0, z1]) rfl ?_
      rw [← HB.out]
      exact ⟨rfl, below_set (below_set hw (by have := hW0.size; have := hW1.size; omega) _) (by have := hW0.size; have := hW1.size; omega) _⟩
end Go.Proofs.YtenfnakhijobkaaGreat
namespace Go.Proofs.YtenfnakhijobkaaGreat
open Go.RowKit Go.Proofs.YtenfnakhijobkaaGreatW.PrintLast
def dryV (r : Rg) : Int := if r.hi = 0 then 1 else if r.lo = 1 then 2 else 3
set_option maxHeartbeats 1000000 in
theorem dry_any (B : Nat) (v : LoftV) (l : LoftD) (sl : Sl) (ts : List TruthD) (hl : LOk l) (ht : ∀ t ∈ ts, TOk l t) (s k : Nat) (bd : BoardD) (ck : CakeD) (hs : l.shelves[s]? = some bd) (hk : l.cakes[k]? = some ck) (come : Nat) (hcome : ck.come = come) (n j : Nat) (hn : come + n = l.air.length) (hj : j < n)
    (w : World) (h : RdWork w B v l sl ts) :
    Calls Tryz.prog 152 #[.pointer (some ⟨B, 0, none⟩), .agg #[.int .i64 k, .int .i64 s], .int .i64 j] w fun e w' => e = .returned (.int .i64 (dryV (bndL (ts.map (wetN l bd.draft come k j))))) ∧ Below w.heap.size w w' := by
  have hB := fun w (h : RdWork w B v l sl ts) => bounds_any B v l sl ts hl ht s k bd ck hs hk come hcome n j hn hj w h
  obtain ⟨⟨lo, hi⟩, hr⟩ : ∃ r, bndL (ts.map (wetN l bd.draft come k j)) = r := ⟨_, rfl⟩
  rw [hr] at hB ⊢
  have HB := Lib.hid hB
  clear hB hr hs hk hcome hn hj ht
  obtain ⟨W0, hNW0, BX, hW0, hzW0⟩ := Box.named w #[.int .i64 (k : Int), .int .i64 (s : Int)] 194
  have g0 := BX.cell 0 (.int .i64 k) rfl
  have g1 := BX.cell 1 (.int .i64 s) rfl
  by_cases h1 : hi = 0
  · have hb : (hi == 0) = true := by simp [h1]
    have H1 := Lib.hid h1
    clear h1
    go_enter Tryz.func152, Tryz.ntmps152
    go_wp2_with (go_at_call 184; refine (HB.out _ (h.below hW0)).mono ?_; rintro e w1 ⟨rfl, hb1⟩)
    go_ret
    exact ⟨ret_int (by rw [dryV, if_pos H1.out]), below_on (below_on hW0 hb1) (below_box _ _)⟩
  have hb : (hi == 0) = false := by simp [h1]
  have H1 := Lib.hid h1
  clear h1
  by_cases h2 : lo = 1
  · have hb2 : (lo == 1) = true := by simp [h2]
    have H2 := Lib.hid h2
    clear h2
    go_enter Tryz.func152, Tryz.ntmps152
    go_wp2_with (go_at_call 184; refine (HB.out _ (h.below hW0)).mono ?_; rintro e w1 ⟨rfl, hb1⟩)
    go_ret
    exact ⟨ret_int (by rw [dryV, if_neg H1.out, if_pos H2.out]), below_on (below_on hW0 hb1) (below_box _ _)⟩
  have hb2 : (lo == 1) = false := by simp [h2]
  have H2 := Lib.hid h2
  clear h2
  go_enter Tryz.func152, Tryz.ntmps152
  go_wp2_with (go_at_call 184; refine (HB.out _ (h.below hW0)).mono ?_; rintro e w1 ⟨rfl, hb1⟩)
  go_ret
  exact ⟨ret_int (by rw [dryV, if_neg H1.out, if_neg H2.out]), below_on (below_on hW0 hb1) (below_box _ _)⟩
end Go.Proofs.YtenfnakhijobkaaGreat
namespace Go.Proofs.YtenfnakhijobkaaGreat
open Go.RowKit Go.Proofs.YtenfnakhijobkaaGreatW.PrintLast

def isDry (l : LoftD) (ts : List TruthD) (draft : Int) (come k i : Nat) : Bool := dryV (bndL (ts.map (wetN l draft come k i))) == 1
def sureDay (l : LoftD) (ts : List TruthD) (s k : Nat) : Int := match l.shelves[s]?, l.cakes[k]? with
  | some bd, some ck => (match (List.range (l.air.length - ck.come.toNat)).find? (isDry l ts bd.draft ck.come.toNat k) with
    | some i => ck.come + i
    | none => 12)
  | _, _ => 12
/-- What the map in block r remembers is so. -/
structure Memo (w : World) (r : Nat) (l : LoftD) (ts : List TruthD) : Prop where
  ex : ∃ (es : Array MapEntry) (clock : Nat), w.heap[r]? = some (.map es clock) ∧ ∀ e ∈ es.toList, ∃ k s : Nat, e.key = spotV k s ∧ e.val = .int .i64 (sureDay l ts s k)
theorem Memo.lift {w w' : World} {r : Nat} {l : LoftD} {ts : List TruthD} (h : Memo w r l ts) (hb : Below w.heap.size w w') : Memo w' r l ts := by
  obtain ⟨es, clock, hr, he⟩ := h.ex
  exact ⟨es, clock, (hb.block r (Array.getElem?_eq_some_iff.1 hr).1).trans hr, he⟩
theorem Memo.look {w : World} {r : Nat} {l : LoftD} {ts : List TruthD} (h : Memo w r l ts) (k s : Nat) :
    (∀ w', Below w.heap.size w w' → (Instr.lookup 220 (.map (some r)) (spotV k s) true).run Tryz.prog w' = .ok (.tuple #[.int .i64 (sureDay l ts s k), .bool true]) w') ∨
    ((∀ w', Below w.heap.size w w' → (Instr.lookup 220 (.map (some r)) (spotV k s) true).run Tryz.prog w' = .ok (.tuple #[.int .i64 0, .bool false]) w') ∧
     ∀ w', Below w.heap.size w w' → ∃ w2, (Instr.mapUpdate 220 (.map (some r)) (spotV k s) (.int .i64 (sureDay l ts s k))).run Tryz.prog w' = .ok () w2 ∧ Memo w2 r l ts ∧ w'.grownBy w2 (some r)) := by
  obtain ⟨es, clock, hr, he⟩ := h.ex
  have hlt := (Array.getElem?_eq_some_iff.1 hr).1
  have hk : SpotKeys es.toList := fun e h => by obtain ⟨k, s, h1, _⟩ := he e h; exact ⟨_, _, h1⟩
  by_cases hin : ∃ e ∈ es.toList, e.key = spotV k s
  · left
    intro w' hb
    have hr' := (hb.block r hlt).trans hr
    rcases lookup_spot k s r es clock w' hr' hk with ⟨j, e, hj, hek, hrun⟩ | ⟨hno, _⟩
    · obtain ⟨k', s', h1, h2⟩ := he e (List.mem_of_getElem? hj)
      rw [hek] at h1
      simp at h1
      obtain ⟨h1, h3⟩ := h1
      obtain rfl : k = k' := by omega
      obtain rfl : s = s' := by omega
      rw [hrun, h2]
    · obtain ⟨e, he1, he2⟩ := hin
      exact absurd he2 (hno e he1)
  · right
    have hno : ∀ e ∈ es.toList, e.key ≠ spotV k s := fun e he h => hin ⟨e, he, h⟩
    refine ⟨fun w' hb => ?_, fun w' hb => ?_⟩
    · have hr' := (hb.block r hlt).trans hr
      rcases lookup_spot k s r es clock w' hr' hk with ⟨j, e, hj, hek, hrun⟩ | ⟨_, hrun⟩
      · exact absurd hek (hno e (List.mem_of_getElem? hj))
      · exact hrun
    · have hr' := (hb.block r hlt).trans hr
      have hrun := update_spot k s (.int .i64 (sureDay l ts s k)) r es clock w' hr' hk hno
      have hput := World.putObj_heap_same (w := w') (o := .map (es.push { key := spotV k s, val := .int .i64 (sureDay l ts s k), born := clock }) (clock + 1)) (Array.getElem?_eq_some_iff.1 hr').1
      refine ⟨_, hrun, ⟨⟨es.push { key := spotV k s, val := .int .i64 (sureDay l ts s k), born := clock }, clock + 1, hput, ?_⟩⟩, grownBy_putObj' w' r _⟩
      intro e he'
      simp at he'
      rcases he' with he' | rfl
      · exact he e (by simpa using he')
      · exact ⟨k, s, rfl, rfl⟩
/-- All cells stay as they were. -/
structure Kept (w w' : World) : Prop where
  size : w.heap.size ≤ w'.heap.size
  cell : ∀ (b o : Nat) (v : Value), w.cell? ⟨b, o, none⟩ = some v → w'.cell? ⟨b, o, none⟩ = some v
theorem Kept.of_below {w w' : World} (h : Below w.heap.size w w') : Kept w w' := ⟨h.size, fun _ _ _ hc => lift h hc⟩
theorem Kept.trans {a b c : World} (h : Kept a b) (k : Kept b c) : Kept a c := ⟨Nat.le_trans h.size k.size, fun x o v hc => k.cell x o v (h.cell x o v hc)⟩
theorem Kept.of_map {w w' : World} {r : Nat} {es : Array MapEntry} {clock : Nat} (hr : w.heap[r]? = some (.map es clock)) (hg : w.grownBy w' (some r)) : Kept w w' :=
  ⟨hg.size, fun b o v hc => lift_grown hg hc (fun e => by
    injection e with e
    subst e
    unfold World.cell? at hc
    simp only [hr] at hc
    cases hc)⟩
theorem Memo.kept {w w' : World} {r : Nat} {l : LoftD} {ts : List TruthD} (h : Memo w r l ts) (hg : w.grownBy w' (some r)) : Kept w w' := by
  obtain ⟨es, clock, hr, _⟩ := h.ex
  exact Kept.of_map hr hg
theorem Rd.kept {α : Type} {f : α → List Value} {sz : Nat} {w w' : World} {s : Sl} {xs : List α} (h : Rd (encR f) sz w s xs) (hk : Kept w w') : Rd (encR f) sz w' s xs :=
  ⟨h.len, h.small, fun j x hx => by
    obtain ⟨b, o, cs, ha, hlt, hl, hr, hc⟩ := h.cells j x hx
    exact ⟨b, o, cs, ha, Nat.lt_of_lt_of_le hlt hk.size, hl, hr, fun k v hv => hk.cell _ _ _ (hc k v hv)⟩⟩
theorem RdLoft.kept {w w' : World} {v : LoftV} {l : LoftD} (h : RdLoft w v l) (hk : Kept w w') : RdLoft w' v l :=
  ⟨h.last, h.air.kept hk, h.shelves.kept hk, h.cakes.kept hk, h.put.kept hk, h.weights.kept hk⟩
theorem RdWork.kept {w w' : World} {B : Nat} {v : LoftV} {l : LoftD} {s : Sl} {ts : List TruthD} (h : RdWork w B v l s ts) (hk : Kept w w') : RdWork w' B v l s ts :=
  ⟨Nat.lt_of_lt_of_le h.lt hk.size, fun i x hx => hk.cell _ _ _ (h.cells i x hx), hk.cell _ _ _ h.truth, h.loft.kept hk, h.ts.kept hk⟩
theorem grown_trans {a b c : World} {row : Option Nat} (h : a.grownBy b row) (k : b.grownBy c row) : a.grownBy c row :=
  ⟨k.os.trans h.os, k.tape.trans h.tape, k.output.trans h.output, Nat.le_trans h.size k.size, fun i hi hne => (k.block i (Nat.lt_of_lt_of_le hi h.size) hne).trans (h.block i hi hne)⟩
theorem sureDay_bd {l : LoftD} (hl : LOk l) (ts : List TruthD) (s k : Nat) : 0 ≤ sureDay l ts s k ∧ sureDay l ts s k ≤ 12 := by
  unfold sureDay
  cases hs : l.shelves[s]? with
  | none => simp
  | some bd =>
    cases hk : l.cakes[k]? with
    | none => simp
    | some ck =>
      simp only
      have hc := hl.cakes ck (List.mem_of_getElem? hk)
      have ha := hl.air
      have h5 := hl.last5
      split
      · rename_i i hi
        have := List.mem_range.1 (List.mem_of_find?_eq_some hi)
        omega
      · omega
/-- Where the map block's cells stay, the loft at work stays too; the map remembers what is so. -/
def SureOut (w : World) (r : Nat) (l : LoftD) (ts : List TruthD) (d : Int) (e : Ending) (w' : World) : Prop := e = .returned (.int .i64 d) ∧ Memo w' r l ts ∧ w.grownBy w' (some r)
theorem find_none_of {n : Nat} {p : Nat → Bool} (h : ∀ i, i < n → p i = false) : (List.range n).find? p = none := by
  rw [List.find?_eq_none]
  intro i hi
  simp [h i (List.mem_range.1 hi)]
theorem find_some_of {n i : Nat} {p : Nat → Bool} (hi : i < n) (hp : p i = true) (h : ∀ j, j < i → p j = false) : (List.range n).find? p = some i := by
  rw [List.find?_range_eq_some]
  exact ⟨hp, List.mem_range.2 hi, fun j hj => by simp [h j hj]⟩
set_option maxHeartbeats 4000000 in
set_option maxRecDepth 100000 in
theorem sure_any (B r : Nat) (v : LoftV) (l : LoftD) (sl : Sl) (ts : List TruthD) (hl : LOk l) (ht : ∀ t ∈ ts, TOk l t) (s k : Nat) (bd : BoardD) (ck : CakeD) (hs : l.shelves[s]? = some bd) (hk : l.cakes[k]? = some ck)
    (w : World) (h : RdWork w B v l sl ts) (h7 : w.cell? ⟨B, 7, none⟩ = some (.map (some r))) (hm : Memo w r l ts) :
    Calls Tryz.prog 117 #[.pointer (some ⟨B, 0, none⟩), .agg #[.int .i64 k, .int .i64 s]] w (SureOut w r l ts (sureDay l ts s k)) := by
  have hc0 := hl.cakes ck (List.mem_of_getElem? hk)
  obtain ⟨come, hcome⟩ := Int.eq_ofNat_of_zero_le hc0.1
  obtain ⟨n, hn⟩ : ∃ n, come + n = l.air.length := ⟨l.air.length - come, by have := hl.air; omega⟩
  have hl5 := hl.last5
  have hl6 := hl.air
  have HD : Hid (sureDay l ts s k = match (List.range n).find? (isDry l ts bd.draft come k) with | some i => (come : Int) + i | none => 12) := by
    show _ = _
    have e : l.air.length - come = n := by omega
    simp only [sureDay, hs, hk, hcome, Int.toNat_natCast, e]
  have hB := fun w j (hj : j < n) (h : RdWork w B v l sl ts) => dry_any B v l sl ts hl ht s k bd ck hs hk come hcome n j hn hj w h
  have HB := Lib.hid hB
  obtain ⟨d, hd⟩ : ∃ d, sureDay l ts s k = d := ⟨_, rfl⟩
  have hM := hm.look k s
  rw [hd] at HD hM ⊢
  have hkc : k < v.cakes.n := by rw [← h.loft.cakes.len]; exact lt_of_at hk
  have hk5 : k < 5 := by have := hl.cakes5; have := lt_of_at hk; omega
  obtain ⟨cb, co, hca, hcl, hcc, _⟩ := h.loft.cakes.cake_at hk
  rw [hcome] at hcc
  obtain ⟨L, hL⟩ : ∃ L : Nat, v.last = (L : Int) := ⟨v.last.toNat, by have := hl.last0; have := h.loft.last; omega⟩
  have hL6 : come + n = L + 1 := by have := h.loft.last; omega
  have hL5 : L ≤ 5 := by have := h.loft.last; omega
  have hR := fun w' (hb : Below w.heap.size w w') => h.below hb
  have HR := Lib.hid hR
  have HM0 := Lib.hid hm
  have HCA := Lib.hid hca
  have HL := Lib.hid hL
  clear hs hk hcome hB hd hR hm hca hL hl6 hn
  rcases hM with hM | ⟨hM, hU⟩
  · have HM := Lib.hid hM
    clear hM
    obtain ⟨W0, hNW0, BX, hW0, hzW0⟩ := Box.named w #[.int .i64 (k : Int), .int .i64 (s : Int)] 194
    have p0 := BX.cell 0 (.int .i64 k) rfl
    have p1 := BX.cell 1 (.int .i64 s) rfl
    have c7 := lift hW0 h7
    go_enter Tryz.func117, Tryz.ntmps117
    go_wp2
    refine start_ (n := 11) (S := fun w' => w'.cell? ⟨B, 7, none⟩ = some (.map (some r)) ∧ w'.cell? ⟨w.heap.size, 0, none⟩ = some (.int .i64 (k : Int)) ∧ w'.cell? ⟨w.heap.size, 1, none⟩ = some (.int .i64 (s : Int))) (ds := []) #[false, false, false, false, false, false, false, false, false, false, false] (by kernel_rfl) rfl rfl ⟨c7, p0, p1⟩ (fun hHeld => ?_)
    obtain ⟨s0, s1, s2⟩ := hHeld
    refine pure_ (i := 0) (N := some 10) (v := ?_) (a' := ?_) #[true, false, false, false, false, false, false, false, false, false, false] rfl rfl (by kernel_rfl) (fun _ _ _ h => h) (Or.inl ⟨by rfl, ?_⟩) ?_ ?_
    rotate_left
    · intro w'
      go_simp
      with_reducible rfl
    rotate_left
    · simp only [Act.put, List.setIfInBounds_toArray, List.set_cons_zero, List.set_cons_succ, i64_w, i32_w]
      rfl
    refine pure_ (i := 1) (N := some 11) (v := ?_) (a' := ?_) #[true, true, false, false, false, false, false, false, false, false, false] rfl rfl (by kernel_rfl) (fun _ _ _ h => h) (Or.inl ⟨by rfl, ?_⟩) ?_ ?_
    rotate_left
    · intro w'
      go_simp
      with_reducible rfl
    rotate_left
    · simp only [Act.put, List.setIfInBounds_toArray, List.set_cons_zero, List.set_cons_succ, i64_w, i32_w]
      rfl
    refine pure_ (i := 2) (N := some 12) (v := ?_) (a' := ?_) #[true, true, true, false, false, false, false, false, false, false, false] rfl rfl (by kernel_rfl) (fun _ _ _ h => h) (Or.inl ⟨by rfl, ?_⟩) ?_ ?_
    rotate_left
    · intro w'
      go_simp
      with_reducible rfl
    rotate_left
    · simp only [Act.put, List.setIfInBounds_toArray, List.set_cons_zero, List.set_cons_succ, i64_w, i32_w]
      rfl
    refine take_ (i := 3) (N := some 13) (v := ?_) (a' := ?_) #[true, true, true, true, false, false, false, false, false, false, false] rfl rfl (by kernel_rfl) (fun _ _ _ h => h) (Or.inl ⟨by rfl, ?_⟩) ⟨s0, s1, s2⟩ ?_ ?_
    rotate_left
    · rintro w' ⟨zs0, zs1, zs2⟩
      go_simp
      with_reducible rfl
    rotate_left
    · simp only [Act.put, List.setIfInBounds_toArray, List.set_cons_zero, List.set_cons_succ, i64_w, i32_w]
      rfl
    refine take_ (i := 4) (N := some 14) (v := ?_) (a' := ?_) #[true, true, true, true, true, false, false, false, false, false, false] rfl rfl (by kernel_rfl) (fun _ _ _ h => h) (Or.inl ⟨by rfl, ?_⟩) ⟨s0, s1, s2⟩ ?_ ?_
    rotate_left
    · rintro w' ⟨zs0, zs1, zs2⟩
      go_simp
      with_reducible rfl
    rotate_left
    · simp only [Act.put, List.setIfInBounds_toArray, List.set_cons_zero, List.set_cons_succ, i64_w, i32_w]
      rfl
    refine one_ (i := 5) (N := some 15) #[true, true, true, true, true, true, false, false, false, false, false] rfl rfl (by kernel_rfl) (by decide) (fun K hK => ?_)
    refine value_ (w1 := W0.drew) (v := .tuple #[.int .i64 d, .bool true]) (by rfl) rfl ?_ ?_
    · have hq := HM.out W0.drew (below_on hW0 (below_drew _))
      unfold execOp
      go_simp
    refine hK.out _ _ ⟨s0, s1, s2⟩ (fun hHeld => ?_)
    clear hK K s0 s1 s2
    obtain ⟨s0, s1, s2⟩ := hHeld
    refine norm_ (a' := ?_) ?_ ?_
    rotate_left
    · show Act.put _ (some 15) _ = _
      simp only [Act.put, List.setIfInBounds_toArray, List.set_cons_zero, List.set_cons_succ, i64_w, i32_w]
      rfl
    refine pure_ (i := 6) (N := some 9) (v := ?_) (a' := ?_) #[true, true, true, true, true, true, true, false, false, false, false] rfl rfl (by kernel_rfl) (fun _ _ _ h => h) (Or.inl ⟨by rfl, ?_⟩) ?_ ?_
    rotate_left
    · intro w'
      go_simp
      with_reducible rfl
    rotate_left
    · simp only [Act.put, List.setIfInBounds_toArray, List.set_cons_zero, List.set_cons_succ, i64_w, i32_w]
      rfl
    refine pure_ (i := 7) (N := some 16) (v := ?_) (a' := ?_) #[true, true, true, true, true, true, true, true, false, false, false] rfl rfl (by kernel_rfl) (fun _ _ _ h => h) (Or.inl ⟨by rfl, ?_⟩) ?_ ?_
    rotate_left
    · intro w'
      go_simp
      with_reducible rfl
    rotate_left
    · simp only [Act.put, List.setIfInBounds_toArray, List.set_cons_zero, List.set_cons_succ, i64_w, i32_w]
      rfl
    refine pure_ (i := 8) (N := some 17) (v := ?_) (a' := ?_) #[true, true, true, true, true, true, true, true, true, false, false] rfl rfl (by kernel_rfl) (fun _ _ _ h => h) (Or.inl ⟨by rfl, ?_⟩) ?_ ?_
    rotate_left
    · intro w'
      go_simp
      with_reducible rfl
    rotate_left
    · simp only [Act.put, List.setIfInBounds_toArray, List.set_cons_zero, List.set_cons_succ, i64_w, i32_w]
      rfl
    refine pure_ (i := 9) (N := some 5) (v := ?_) (a' := ?_) #[true, true, true, true, true, true, true, true, true, true, false] rfl rfl (by kernel_rfl) (fun _ _ _ h => h) (Or.inl ⟨by rfl, ?_⟩) ?_ ?_
    rotate_left
    · intro w'
      go_simp
      with_reducible rfl
    rotate_left
    · simp only [Act.put, List.setIfInBounds_toArray, List.set_cons_zero, List.set_cons_succ, i64_w, i32_w]
      rfl
    refine pure_ (i := 10) (N := some 6) (v := ?_) (a' := ?_) #[true, true, true, true, true, true, true, true, true, true, true] rfl rfl (by kernel_rfl) (fun _ _ _ h => h) (Or.inl ⟨by rfl, ?_⟩) ?_ ?_
    rotate_left
    · intro w'
      go_simp
      with_reducible rfl
    rotate_left
    · simp only [Act.put, List.setIfInBounds_toArray, List.set_cons_zero, List.set_cons_succ, i64_w, i32_w]
      rfl
    refine done_ (by kernel_rfl) ?_
    go_wp2
    go_ret
    exact ⟨rfl, HM0.out.lift (below_on hW0 (below_drew _)), grown_below (below_on hW0 (below_drew _)) _⟩
  · have HM := Lib.hid hM
    have HU := Lib.hid hU
    clear hM hU
    obtain ⟨W0, hNW0, BX, hW0, hzW0⟩ := Box.named w #[.int .i64 (k : Int), .int .i64 (s : Int)] 194
    have p0 := BX.cell 0 (.int .i64 k) rfl
    have p1 := BX.cell 1 (.int .i64 s) rfl
    have c7 := lift hW0 h7
    go_enter Tryz.func117, Tryz.ntmps117
    go_wp2
    clear hNW0
    refine start_ (n := 11) (S := fun w' => w'.cell? ⟨B, 7, none⟩ = some (.map (some r)) ∧ w'.cell? ⟨w.heap.size, 0, none⟩ = some (.int .i64 (k : Int)) ∧ w'.cell? ⟨w.heap.size, 1, none⟩ = some (.int .i64 (s : Int))) (ds := []) #[false, false, false, false, false, false, false, false, false, false, false] (by kernel_rfl) rfl rfl ⟨c7, p0, p1⟩ (fun hHeld => ?_)
    obtain ⟨s0, s1, s2⟩ := hHeld
    refine pure_ (i := 0) (N := some 10) (v := ?_) (a' := ?_) #[true, false, false, false, false, false, false, false, false, false, false] rfl rfl (by kernel_rfl) (fun _ _ _ h => h) (Or.inl ⟨by rfl, ?_⟩) ?_ ?_
    rotate_left
    · intro w'
      go_simp
      with_reducible rfl
    rotate_left
    · simp only [Act.put, List.setIfInBounds_toArray, List.set_cons_zero, List.set_cons_succ, i64_w, i32_w]
      rfl
    refine pure_ (i := 1) (N := some 11) (v := ?_) (a' := ?_) #[true, true, false, false, false, false, false, false, false, false, false] rfl rfl (by kernel_rfl) (fun _ _ _ h => h) (Or.inl ⟨by rfl, ?_⟩) ?_ ?_
    rotate_left
    · intro w'
      go_simp
      with_reducible rfl
    rotate_left
    · simp only [Act.put, List.setIfInBounds_toArray, List.set_cons_zero, List.set_cons_succ, i64_w, i32_w]
      rfl
    refine pure_ (i := 2) (N := some 12) (v := ?_) (a' := ?_) #[true, true, true, false, false, false, false, false, false, false, false] rfl rfl (by kernel_rfl) (fun _ _ _ h => h) (Or.inl ⟨by rfl, ?_⟩) ?_ ?_
    rotate_left
    · intro w'
      go_simp
      with_reducible rfl
    rotate_left
    · simp only [Act.put, List.setIfInBounds_toArray, List.set_cons_zero, List.set_cons_succ, i64_w, i32_w]
      rfl
    refine take_ (i := 3) (N := some 13) (v := ?_) (a' := ?_) #[true, true, true, true, false, false, false, false, false, false, false] rfl rfl (by kernel_rfl) (fun _ _ _ h => h) (Or.inl ⟨by rfl, ?_⟩) ⟨s0, s1, s2⟩ ?_ ?_
    rotate_left
    · rintro w' ⟨zs0, zs1, zs2⟩
      go_simp
      with_reducible rfl
    rotate_left
    · simp only [Act.put, List.setIfInBounds_toArray, List.set_cons_zero, List.set_cons_succ, i64_w, i32_w]
      rfl
    refine take_ (i := 4) (N := some 14) (v := ?_) (a' := ?_) #[true, true, true, true, true, false, false, false, false, false, false] rfl rfl (by kernel_rfl) (fun _ _ _ h => h) (Or.inl ⟨by rfl, ?_⟩) ⟨s0, s1, s2⟩ ?_ ?_
    rotate_left
    · rintro w' ⟨zs0, zs1, zs2⟩
      go_simp
      with_reducible rfl
    rotate_left
    · simp only [Act.put, List.setIfInBounds_toArray, List.set_cons_zero, List.set_cons_succ, i64_w, i32_w]
      rfl
    refine one_ (i := 5) (N := some 15) #[true, true, true, true, true, true, false, false, false, false, false] rfl rfl (by kernel_rfl) (by decide) (fun K hK => ?_)
    refine value_ (w1 := W0.drew) (v := .tuple #[.int .i64 0, .bool false]) (by rfl) rfl ?_ ?_
    · have hq := HM.out W0.drew (below_on hW0 (below_drew _))
      unfold execOp
      go_simp
    refine hK.out _ _ ⟨s0, s1, s2⟩ (fun hHeld => ?_)
    clear hK K s0 s1 s2
    obtain ⟨s0, s1, s2⟩ := hHeld
    refine norm_ (a' := ?_) ?_ ?_
    rotate_left
    · show Act.put _ (some 15) _ = _
      simp only [Act.put, List.setIfInBounds_toArray, List.set_cons_zero, List.set_cons_succ, i64_w, i32_w]
      rfl
    refine pure_ (i := 6) (N := some 9) (v := ?_) (a' := ?_) #[true, true, true, true, true, true, true, false, false, false, false] rfl rfl (by kernel_rfl) (fun _ _ _ h => h) (Or.inl ⟨by rfl, ?_⟩) ?_ ?_
    rotate_left
    · intro w'
      go_simp
      with_reducible rfl
    rotate_left
    · simp only [Act.put, List.setIfInBounds_toArray, List.set_cons_zero, List.set_cons_succ, i64_w, i32_w]
      rfl
    refine pure_ (i := 7) (N := some 16) (v := ?_) (a' := ?_) #[true, true, true, true, true, true, true, true, false, false, false] rfl rfl (by kernel_rfl) (fun _ _ _ h => h) (Or.inl ⟨by rfl, ?_⟩) ?_ ?_
    rotate_left
    · intro w'
      go_simp
      with_reducible rfl
    rotate_left
    · simp only [Act.put, List.setIfInBounds_toArray, List.set_cons_zero, List.set_cons_succ, i64_w, i32_w]
      rfl
    refine pure_ (i := 8) (N := some 17) (v := ?_) (a' := ?_) #[true, true, true, true, true, true, true, true, true, false, false] rfl rfl (by kernel_rfl) (fun _ _ _ h => h) (Or.inl ⟨by rfl, ?_⟩) ?_ ?_
    rotate_left
    · intro w'
      go_simp
      with_reducible rfl
    rotate_left
    · simp only [Act.put, List.setIfInBounds_toArray, List.set_cons_zero, List.set_cons_succ, i64_w, i32_w]
      rfl
    refine pure_ (i := 9) (N := some 5) (v := ?_) (a' := ?_) #[true, true, true, true, true, true, true, true, true, true, false] rfl rfl (by kernel_rfl) (fun _ _ _ h => h) (Or.inl ⟨by rfl, ?_⟩) ?_ ?_
    rotate_left
    · intro w'
      go_simp
      with_reducible rfl
    rotate_left
    · simp only [Act.put, List.setIfInBounds_toArray, List.set_cons_zero, List.set_cons_succ, i64_w, i32_w]
      rfl
    refine pure_ (i := 10) (N := some 6) (v := ?_) (a' := ?_) #[true, true, true, true, true, true, true, true, true, true, true] rfl rfl (by kernel_rfl) (fun _ _ _ h => h) (Or.inl ⟨by rfl, ?_⟩) ?_ ?_
    rotate_left
    · intro w'
      go_simp
      with_reducible rfl
    rotate_left
    · simp only [Act.put, List.setIfInBounds_toArray, List.set_cons_zero, List.set_cons_succ, i64_w, i32_w]
      rfl
    refine done_ (by kernel_rfl) ?_
    have hw1 : Below w.heap.size w W0.drew := below_on hW0 (below_drew _)
    have c3 := (HR.out _ hw1).cells 3 (.slice v.cakes.a v.cakes.n v.cakes.c) rfl
    rw [HCA.out] at c3
    have q0 := lift (below_drew W0) p0
    have hcc1 := lift hw1 hcc
    go_wp2
    have zz0 := fun x : After W0.drew => At.cell c3 x
    have zz1 := fun x : After W0.drew => At.cell q0 x
    have zz2 := fun x : After W0.drew => At.cell hcc1 x
    refine wp_region_after (by kernel_rfl) (by kernel_rfl) ?_
    repeat (go_big_quiet_step ((fail)))
    refine wpQuiet_nil ?_
    intro W2 hbW2
    clear zz0 zz1 zz2
    have hw2 := below_on hw1 hbW2
    have c0 := (HR.out _ hw2).cells 0 (.int .i64 v.last) rfl
    rw [HL.out] at c0
    go_wp2
    clear c0 c3 q0 hcc1
    go_loopw [5, 38] (fun d5 i wr => ∃ j : Nat, j ≤ n ∧ d5 = .int .i64 12 ∧ i = .int .i64 j ∧ Hid (∀ q, q < j → isDry l ts bd.draft come k q = false) ∧ Below W2.heap.size W2 wr) (fun _ i _ => n - (intOf i).toNat)
    case atStart => exact ⟨0, Nat.zero_le _, rfl, rfl, (fun q hq => absurd hq (Nat.not_lt_zero q)), Below.refl _ _⟩
    case round =>
      obtain ⟨j, hj, rfl, rfl, hq, hb⟩ := hrel
      have hw := below_on hw2 hb
      have HRR := Lib.hid (HR.out _ hw)
      have p0 := lift (below_on (below_on (below_drew W0) hbW2) hb) p0
      have p1 := lift (below_on (below_on (below_drew W0) hbW2) hb) p1
      have c7 := lift hw h7
      by_cases hlt : j < n
      · have hlt2 : (j : Int) < (L : Int) - (come : Int) + 1 := by omega
        have hj6 : j ≤ 6 := by omega
        obtain ⟨dv, hdv⟩ : ∃ dv, dryV (bndL (ts.map (wetN l bd.draft come k j))) = dv := ⟨_, rfl⟩
        have hBj := HB.out wr j hlt HRR.out
        rw [hdv] at hBj
        have HBJ := Lib.hid hBj
        have HDV : Hid (isDry l ts bd.draft come k j = (dv == 1)) := by show _ = _; rw [isDry, hdv]
        clear hBj hdv
        by_cases hd1 : dv = 1
        · have hdb : (dv == 1) = true := by simp [hd1]
          have HD1 := Lib.hid hd1
          clear hd1
          have HE : Hid (d = (come : Int) + j) := by
            show _ = _
            rw [HD.out, find_some_of hlt (by rw [HDV.out, HD1.out]; rfl) hq.out]
          go_wp2_with (go_at_call 152; refine HBJ.out.mono ?_; rintro e w4 ⟨rfl, hb4⟩)
          have hb04 := hb4
          have p0 := lift hb04 p0
          have p1 := lift hb04 p1
          have c7 := lift hb04 c7
          have hw4 := below_on hw hb04
          have hU := HU.out w4.drew (below_on hw4 (below_drew _))
          rw [HE.out] at hU
          obtain ⟨w5, hrun, hm5, hg5⟩ := hU
          have HRUN := Lib.hid hrun
          clear hrun
          refine start_ (n := 7) (S := fun w' => w'.cell? ⟨B, 7, none⟩ = some (.map (some r)) ∧ w'.cell? ⟨w.heap.size, 0, none⟩ = some (.int .i64 (k : Int)) ∧ w'.cell? ⟨w.heap.size, 1, none⟩ = some (.int .i64 (s : Int))) (ds := [6]) #[false, false, false, false, false, false, false] (by kernel_rfl) rfl rfl ⟨c7, p0, p1⟩ (fun hHeld => ?_)
          obtain ⟨s0, s1, s2⟩ := hHeld
          refine pure_ (i := 0) (N := some 50) (v := ?_) (a' := ?_) #[true, false, false, false, false, false, false] rfl rfl (by kernel_rfl) (fun _ _ _ h => h) (Or.inl ⟨by rfl, ?_⟩) ?_ ?_
          rotate_left
          · intro w'
            go_simp
            with_reducible rfl
          rotate_left
          · simp only [Act.put, List.setIfInBounds_toArray, List.set_cons_zero, List.set_cons_succ, i64_w, i32_w]
            rfl
          refine pure_ (i := 1) (N := some 51) (v := ?_) (a' := ?_) #[true, true, false, false, false, false, false] rfl rfl (by kernel_rfl) (fun _ _ _ h => h) (Or.inl ⟨by rfl, ?_⟩) ?_ ?_
          rotate_left
          · intro w'
            go_simp
            with_reducible rfl
          rotate_left
          · simp only [Act.put, List.setIfInBounds_toArray, List.set_cons_zero, List.set_cons_succ, i64_w, i32_w]
            rfl
          refine pure_ (i := 2) (N := some 52) (v := ?_) (a' := ?_) #[true, true, true, false, false, false, false] rfl rfl (by kernel_rfl) (fun _ _ _ h => h) (Or.inl ⟨by rfl, ?_⟩) ?_ ?_
          rotate_left
          · intro w'
            go_simp
            with_reducible rfl
          rotate_left
          · simp only [Act.put, List.setIfInBounds_toArray, List.set_cons_zero, List.set_cons_succ, i64_w, i32_w]
            rfl
          refine pure_ (i := 5) (N := some 55) (v := ?_) (a' := ?_) #[true, true, true, false, false, true, false] rfl rfl (by kernel_rfl) (fun _ _ _ h => h) (Or.inl ⟨by rfl, ?_⟩) ?_ ?_
          rotate_left
          · intro w'
            go_simp
            with_reducible rfl
          rotate_left
          · simp only [Act.put, List.setIfInBounds_toArray, List.set_cons_zero, List.set_cons_succ, i64_w, i32_w]
            rfl
          refine take_ (i := 3) (N := some 53) (v := ?_) (a' := ?_) #[true, true, true, true, false, true, false] rfl rfl (by kernel_rfl) (fun _ _ _ h => h) (Or.inl ⟨by rfl, ?_⟩) ⟨s0, s1, s2⟩ ?_ ?_
          rotate_left
          · rintro w' ⟨zs0, zs1, zs2⟩
            go_simp
            with_reducible rfl
          rotate_left
          · simp only [Act.put, List.setIfInBounds_toArray, List.set_cons_zero, List.set_cons_succ, i64_w, i32_w]
            rfl
          refine take_ (i := 4) (N := some 54) (v := ?_) (a' := ?_) #[true, true, true, true, true, true, false] rfl rfl (by kernel_rfl) (fun _ _ _ h => h) (Or.inl ⟨by rfl, ?_⟩) ⟨s0, s1, s2⟩ ?_ ?_
          rotate_left
          · rintro w' ⟨zs0, zs1, zs2⟩
            go_simp
            with_reducible rfl
          rotate_left
          · simp only [Act.put, List.setIfInBounds_toArray, List.set_cons_zero, List.set_cons_succ, i64_w, i32_w]
            rfl
          refine last_ (i := 6) (N := none) #[true, true, true, true, true, true, true] rfl rfl (by kernel_rfl) (by decide) (fun K hK => ?_)
          refine skip_ (w1 := w5) (by rfl) rfl ?_ ?_
          · have hrun := HRUN.out
            unfold execOp
            go_simp
          refine hK.out _ _ ?_
          clear hK K
          clear s0 s1 s2
          refine done_ (by kernel_rfl) ?_
          go_wp2
          go_ret
          rw [HE.out]
          exact ⟨rfl, hm5, grown_trans (grown_below (below_on hw4 (below_drew _)) _) hg5⟩
        · have hdb : (dv == 1) = false := by simp [hd1]
          have HD1 := Lib.hid hd1
          clear hd1
          go_wp2_with (go_at_call 152; refine HBJ.out.mono ?_; rintro e w4 ⟨rfl, hb4⟩)
          go_roundw
          case measure => simp [intOf]; omega
          case rel => exact ⟨j + 1, by omega, rfl, by go_num, (fun q hq2 => by
            by_cases e : q = j
            · rw [e, HDV.out]; simp [HD1.out]
            · exact hq.out q (by omega)), below_on hb hb4⟩
      · obtain rfl : j = n := by omega
        have hlt2 : ¬ (j : Int) < (L : Int) - (come : Int) + 1 := by omega
        have HE : Hid (d = 12) := by show _ = _; rw [HD.out, find_none_of hq.out]
        go_wp2
        have hb04 := (Below.refl wr.heap.size wr)
        have p0 := lift hb04 p0
        have p1 := lift hb04 p1
        have c7 := lift hb04 c7
        have hw4 := below_on hw hb04
        have hU := HU.out wr.drew (below_on hw4 (below_drew _))
        rw [HE.out] at hU
        obtain ⟨w5, hrun, hm5, hg5⟩ := hU
        have HRUN := Lib.hid hrun
        clear hrun
        refine start_ (n := 7) (S := fun w' => w'.cell? ⟨B, 7, none⟩ = some (.map (some r)) ∧ w'.cell? ⟨w.heap.size, 0, none⟩ = some (.int .i64 (k : Int)) ∧ w'.cell? ⟨w.heap.size, 1, none⟩ = some (.int .i64 (s : Int))) (ds := [6]) #[false, false, false, false, false, false, false] (by kernel_rfl) rfl rfl ⟨c7, p0, p1⟩ (fun hHeld => ?_)
        obtain ⟨s0, s1, s2⟩ := hHeld
        refine pure_ (i := 0) (N := some 50) (v := ?_) (a' := ?_) #[true, false, false, false, false, false, false] rfl rfl (by kernel_rfl) (fun _ _ _ h => h) (Or.inl ⟨by rfl, ?_⟩) ?_ ?_
        rotate_left
        · intro w'
          go_simp
          with_reducible rfl
        rotate_left
        · simp only [Act.put, List.setIfInBounds_toArray, List.set_cons_zero, List.set_cons_succ, i64_w, i32_w]
          rfl
        refine pure_ (i := 1) (N := some 51) (v := ?_) (a' := ?_) #[true, true, false, false, false, false, false] rfl rfl (by kernel_rfl) (fun _ _ _ h => h) (Or.inl ⟨by rfl, ?_⟩) ?_ ?_
        rotate_left
        · intro w'
          go_simp
          with_reducible rfl
        rotate_left
        · simp only [Act.put, List.setIfInBounds_toArray, List.set_cons_zero, List.set_cons_succ, i64_w, i32_w]
          rfl
        refine pure_ (i := 2) (N := some 52) (v := ?_) (a' := ?_) #[true, true, true, false, false, false, false] rfl rfl (by kernel_rfl) (fun _ _ _ h => h) (Or.inl ⟨by rfl, ?_⟩) ?_ ?_
        rotate_left
        · intro w'
          go_simp
          with_reducible rfl
        rotate_left
        · simp only [Act.put, List.setIfInBounds_toArray, List.set_cons_zero, List.set_cons_succ, i64_w, i32_w]
          rfl
        refine pure_ (i := 5) (N := some 55) (v := ?_) (a' := ?_) #[true, true, true, false, false, true, false] rfl rfl (by kernel_rfl) (fun _ _ _ h => h) (Or.inl ⟨by rfl, ?_⟩) ?_ ?_
        rotate_left
        · intro w'
          go_simp
          with_reducible rfl
        rotate_left
        · simp only [Act.put, List.setIfInBounds_toArray, List.set_cons_zero, List.set_cons_succ, i64_w, i32_w]
          rfl
        refine take_ (i := 3) (N := some 53) (v := ?_) (a' := ?_) #[true, true, true, true, false, true, false] rfl rfl (by kernel_rfl) (fun _ _ _ h => h) (Or.inl ⟨by rfl, ?_⟩) ⟨s0, s1, s2⟩ ?_ ?_
        rotate_left
        · rintro w' ⟨zs0, zs1, zs2⟩
          go_simp
          with_reducible rfl
        rotate_left
        · simp only [Act.put, List.setIfInBounds_toArray, List.set_cons_zero, List.set_cons_succ, i64_w, i32_w]
          rfl
        refine take_ (i := 4) (N := some 54) (v := ?_) (a' := ?_) #[true, true, true, true, true, true, false] rfl rfl (by kernel_rfl) (fun _ _ _ h => h) (Or.inl ⟨by rfl, ?_⟩) ⟨s0, s1, s2⟩ ?_ ?_
        rotate_left
        · rintro w' ⟨zs0, zs1, zs2⟩
          go_simp
          with_reducible rfl
        rotate_left
        · simp only [Act.put, List.setIfInBounds_toArray, List.set_cons_zero, List.set_cons_succ, i64_w, i32_w]
          rfl
        refine last_ (i := 6) (N := none) #[true, true, true, true, true, true, true] rfl rfl (by kernel_rfl) (by decide) (fun K hK => ?_)
        refine skip_ (w1 := w5) (by rfl) rfl ?_ ?_
        · have hrun := HRUN.out
          unfold execOp
          go_simp
        refine hK.out _ _ ?_
        clear hK K
        clear s0 s1 s2
        refine done_ (by kernel_rfl) ?_
        go_wp2
        go_ret
        rw [HE.out]
        exact ⟨rfl, hm5, grown_trans (grown_below (below_on hw4 (below_drew _)) _) hg5⟩
end Go.Proofs.YtenfnakhijobkaaGreat
namespace Go.Proofs.YtenfnakhijobkaaGreat

/-- The numbers of a range. -/
def Rg.nums (r : Rg) : List Int := (List.range r.size.toNat).map fun n : Nat => r.lo + (n : Int)
def enumL : List Rg → List (List Int)
  | [] => [[]]
  | r :: rs => r.nums.flatMap fun x => (enumL rs).map (x :: ·)
def FitsL : List Rg → List Int → Prop
  | [], xs => xs = []
  | r :: rs, xs => ∃ x ys, xs = x :: ys ∧ r.lo ≤ x ∧ x ≤ r.hi ∧ FitsL rs ys
theorem mem_nums {r : Rg} {x : Int} : x ∈ r.nums ↔ r.lo ≤ x ∧ x ≤ r.hi := by
  simp only [Rg.nums, List.mem_map, List.mem_range, Rg.size]
  constructor
  · rintro ⟨n, hn, rfl⟩; omega
  · intro h; exact ⟨(x - r.lo).toNat, by omega, by omega⟩
theorem mem_enumL : ∀ {rs : List Rg} {xs : List Int}, xs ∈ enumL rs ↔ FitsL rs xs
  | [], xs => by simp [enumL, FitsL]
  | r :: rs, xs => by
    simp only [enumL, FitsL, List.mem_flatMap, List.mem_map]
    constructor
    · rintro ⟨x, hx, ys, hy, rfl⟩
      have := mem_nums.1 hx
      exact ⟨x, ys, rfl, this.1, this.2, mem_enumL.1 hy⟩
    · rintro ⟨x, ys, rfl, h1, h2, h3⟩
      exact ⟨x, mem_nums.2 ⟨h1, h2⟩, ys, mem_enumL.2 h3, rfl⟩
theorem FitsL.len : ∀ {rs : List Rg} {xs : List Int}, FitsL rs xs → xs.length = rs.length
  | [], _, h => by rw [show _ = [] from h]; rfl
  | r :: rs, _, ⟨x, ys, e, _, _, h⟩ => by rw [e]; simp [h.len]
theorem FitsL.at : ∀ {rs : List Rg} {xs : List Int} {i : Nat} {r : Rg}, FitsL rs xs → rs[i]? = some r → ∃ x, xs[i]? = some x ∧ r.lo ≤ x ∧ x ≤ r.hi
  | [], _, i, r, _, h => by simp at h
  | q :: rs, _, 0, r, ⟨x, ys, e, h1, h2, _⟩, h => by
    simp at h; subst h; subst e; exact ⟨x, rfl, h1, h2⟩
  | q :: rs, _, i + 1, r, ⟨x, ys, e, _, _, h3⟩, h => by
    subst e
    simpa using FitsL.at (i := i) h3 (by simpa using h)
theorem fitsL_of : ∀ {rs : List Rg} {xs : List Int}, xs.length = rs.length → (∀ (i : Nat) r x, rs[i]? = some r → xs[i]? = some x → r.lo ≤ x ∧ x ≤ r.hi) → FitsL rs xs
  | [], xs, h, _ => List.eq_nil_of_length_eq_zero (by simpa using h)
  | r :: rs, [], h, _ => by simp at h
  | r :: rs, x :: ys, h, hk => ⟨x, ys, rfl, (hk 0 r x rfl rfl).1, (hk 0 r x rfl rfl).2, fitsL_of (by simpa using h) (fun i r' x' h1 h2 => hk (i + 1) r' x' (by simpa using h1) (by simpa using h2))⟩

/-! ### The list with a number -/
def nthL : List Rg → Nat → List Int
  | [], _ => []
  | r :: rs, n => (r.lo + ((n % r.size.toNat : Nat) : Int)) :: nthL rs (n / r.size.toNat)
def nthD : List Rg → Nat → Nat
  | [], n => n
  | r :: rs, n => nthD rs (n / r.size.toNat)
theorem nthFold : ∀ (rs : List Rg) (a : List Int) (n : Nat), rs.foldl nthStep (a, n) = (a ++ nthL rs n, nthD rs n)
  | [], a, n => by simp [nthL, nthD]
  | r :: rs, a, n => by rw [List.foldl_cons, nthStep, nthFold rs]; simp [nthL, nthD]
theorem nthF_eq (rs : List Rg) (n : Nat) : nthF rs n = (nthL rs n, nthD rs n) := by simp [nthF, nthFold]
theorem nthL_append : ∀ (xa bs : List Rg) (n : Nat), nthL (xa ++ bs) n = nthL xa n ++ nthL bs (nthD xa n)
  | [], bs, n => by simp [nthL, nthD]
  | r :: xa, bs, n => by simp [nthL, nthD, nthL_append xa bs]
theorem nthL_len : ∀ (rs : List Rg) (n : Nat), (nthL rs n).length = rs.length
  | [], n => rfl
  | r :: rs, n => by simp [nthL, nthL_len rs]
theorem nthL_fits : ∀ (rs : List Rg) (n : Nat), (∀ r ∈ rs, r.lo ≤ r.hi) → FitsL rs (nthL rs n)
  | [], n, _ => rfl
  | r :: rs, n, h => by
    have h1 := h r (by simp)
    have h2 : 0 < r.size.toNat := by unfold Rg.size; omega
    have h3 := Nat.mod_lt n h2
    have h4 : (r.size.toNat : Int) = r.hi - r.lo + 1 := by unfold Rg.size; omega
    exact ⟨_, _, rfl, by omega, by omega, nthL_fits rs _ (fun q hq => h q (by simp [hq]))⟩
def prodL : List Int → Int
  | [] => 1
  | s :: ss => s * prodL ss
theorem prodL_pos : ∀ {ss : List Int}, (∀ s ∈ ss, 1 ≤ s) → 1 ≤ prodL ss
  | [], _ => by simp [prodL]
  | s :: ss, h => by
    have h1 := h s (by simp)
    have h2 := prodL_pos (ss := ss) (fun q hq => h q (by simp [hq]))
    have : 1 * 1 ≤ s * prodL ss := Int.mul_le_mul h1 h2 (by omega) (by omega)
    simpa [prodL] using this
theorem fits_nth : ∀ {rs : List Rg} {xs : List Int}, (∀ r ∈ rs, r.lo ≤ r.hi) → FitsL rs xs → ∃ n : Nat, (n : Int) < prodL (rs.map Rg.size) ∧ nthL rs n = xs
  | [], xs, _, h => ⟨0, by simp [prodL], by rw [show xs = [] from h]; rfl⟩
  | r :: rs, _, hr, ⟨x, ys, e, h1, h2, h3⟩ => by
    obtain ⟨n, hn, hy⟩ := fits_nth (rs := rs) (fun q hq => hr q (by simp [hq])) h3
    obtain ⟨d, hd⟩ : ∃ d : Nat, x = r.lo + (d : Int) := ⟨(x - r.lo).toNat, by omega⟩
    obtain ⟨sz, hsz⟩ : ∃ sz : Nat, r.size = (sz : Int) := ⟨r.size.toNat, by unfold Rg.size; omega⟩
    have hds : d < sz := by unfold Rg.size at hsz; omega
    refine ⟨d + sz * n, ?_, ?_⟩
    · simp only [List.map_cons, prodL, hsz]
      have h4 : (sz : Int) * (n + 1) ≤ sz * prodL (rs.map Rg.size) := Int.mul_le_mul_of_nonneg_left (by omega) (by omega)
      rw [Int.mul_add] at h4
      have h5 : ((d + sz * n : Nat) : Int) = d + sz * n := by simp
      rw [h5]
      omega
    · have e1 : r.size.toNat = sz := by omega
      have e2 : (d + sz * n) % sz = d := by rw [Nat.add_mul_mod_self_left]; exact Nat.mod_eq_of_lt hds
      have e3 : (d + sz * n) / sz = n := by rw [Nat.add_mul_div_left _ _ (by omega)]; simp [Nat.div_eq_of_lt hds]
      rw [nthL, e1, e2, e3, hy, e, hd]
theorem capStep_min {cap n s : Int} : capStep cap n s = min (n * s) cap := by
  unfold capStep
  split <;> omega
theorem capFold_eq {cap : Int} (hc : 1 ≤ cap) : ∀ (ss : List Int) (n : Int), 1 ≤ n → n ≤ cap → (∀ s ∈ ss, 1 ≤ s) → ss.foldl (capStep cap) n = min (n * prodL ss) cap
  | [], n, h1, h2, _ => by simp [prodL]; omega
  | s :: ss, n, h1, h2, hs => by
    have hs1 := hs s (by simp)
    have hp := prodL_pos (ss := ss) (fun q hq => hs q (by simp [hq]))
    have h3 := capStep_pos hc h1 hs1
    rw [List.foldl_cons, capFold_eq hc ss _ h3.1 h3.2 (fun q hq => hs q (by simp [hq])), capStep_min, prodL, ← Int.mul_assoc]
    rcases Int.le_total (n * s) cap with h | h
    · rw [Int.min_eq_left h]
    · rw [Int.min_eq_right h]
      have a1 : cap * 1 ≤ cap * prodL ss := Int.mul_le_mul_of_nonneg_left hp (by omega)
      have a2 : cap * prodL ss ≤ n * s * prodL ss := Int.mul_le_mul_of_nonneg_right h (by omega)
      omega
theorem capMul_prod {ss : List Int} (hs : ∀ s ∈ ss, 1 ≤ s) (h : capMul 3000 ss ≤ 2000) : capMul 3000 ss = prodL ss := by
  have := capFold_eq (cap := 3000) (by omega) ss 1 (by omega) (by omega) hs
  unfold capMul at h ⊢
  rw [this] at h ⊢
  rw [Int.one_mul] at h ⊢
  omega

/-! ### Truths of a loft -/
def LoftD.rs (l : LoftD) : List Rg := l.air ++ l.cakes.map (·.water)
def mkT (l : LoftD) (xs : List Int) : TruthD := ⟨xs.take l.air.length, xs.drop l.air.length⟩
def lexT (l : LoftD) : List TruthD := ((enumL l.rs).map (mkT l)).filter (tOk l)
theorem nthT_eq (l : LoftD) (n : Nat) : nthT l n = mkT l (nthL l.rs n) := by
  simp only [nthT, mkT, LoftD.rs, nthF_eq, nthL_append]
  rw [List.take_append_of_le_length (by rw [nthL_len]; exact Nat.le_refl _), List.drop_append_of_le_length (by rw [nthL_len]; exact Nat.le_refl _)]
  rw [List.take_of_length_le (by rw [nthL_len]; exact Nat.le_refl _), List.drop_of_length_le (by rw [nthL_len]; exact Nat.le_refl _)]
  simp
theorem LOk.rsOk {l : LoftD} (hl : LOk l) : ∀ r ∈ l.rs, 0 ≤ r.lo ∧ r.lo ≤ r.hi ∧ r.hi ≤ 40 := by
  intro r hr
  rcases List.mem_append.1 hr with hr | hr
  · have := hl.airs r hr; omega
  · obtain ⟨c, hc, rfl⟩ := List.mem_map.1 hr
    have := hl.cakes c hc
    exact ⟨this.2.2.1, this.2.2.2.1, this.2.2.2.2.1⟩
theorem LoftD.sizes_eq (l : LoftD) : l.sizes = l.rs.map Rg.size := by simp [LoftD.sizes, LoftD.rs]
theorem mem_truthsR {l : LoftD} (hl : LOk l) {t : TruthD} : t ∈ truthsR l ↔ ∃ xs, FitsL l.rs xs ∧ t = mkT l xs ∧ tOk l t = true := by
  have hp : ∀ s ∈ l.sizes, 1 ≤ s := fun s hs => by
    rw [LoftD.sizes_eq] at hs
    obtain ⟨r, hr, rfl⟩ := List.mem_map.1 hs
    have := hl.rsOk r hr
    unfold Rg.size; omega
  have hc := capMul_prod hp hl.many
  have hlo : ∀ r ∈ l.rs, r.lo ≤ r.hi := fun r hr => (hl.rsOk r hr).2.1
  simp only [truthsR, tsR, List.mem_filter, List.mem_map, List.mem_range]
  constructor
  · rintro ⟨⟨n, _, rfl⟩, h⟩
    exact ⟨nthL l.rs n, nthL_fits _ _ hlo, nthT_eq l n, h⟩
  · rintro ⟨xs, hf, rfl, h⟩
    obtain ⟨n, hn, rfl⟩ := fits_nth hlo hf
    refine ⟨⟨n, ?_, nthT_eq l n⟩, h⟩
    rw [hc, LoftD.sizes_eq]
    omega
theorem mem_lexT {l : LoftD} (hl : LOk l) {t : TruthD} : t ∈ lexT l ↔ t ∈ truthsR l := by
  rw [mem_truthsR hl]
  simp only [lexT, List.mem_filter, List.mem_map, mem_enumL]
  constructor
  · rintro ⟨⟨xs, hf, rfl⟩, h⟩; exact ⟨xs, hf, rfl, h⟩
  · rintro ⟨xs, hf, rfl, h⟩; exact ⟨⟨xs, hf, rfl⟩, h⟩
theorem fits_tok {l : LoftD} (hl : LOk l) {xs : List Int} (h : FitsL l.rs xs) : TOk l (mkT l xs) := by
  have hlen := h.len
  simp only [LoftD.rs, List.length_append, List.length_map] at hlen
  refine ⟨by simp [mkT]; omega, by simp [mkT]; omega, fun a ha => ?_, fun a ha => ?_⟩
  · obtain ⟨i, hi⟩ := List.getElem?_of_mem ha
    simp only [mkT] at hi
    have hil : i < l.air.length := by have := (List.getElem?_eq_some_iff.1 hi).1; simp at this; omega
    rw [List.getElem?_take_of_lt hil] at hi
    have hr : l.rs[i]? = some l.air[i] := by unfold LoftD.rs; rw [List.getElem?_append_left hil, List.getElem?_eq_getElem hil]
    obtain ⟨x, hx, h1, h2⟩ := h.at hr
    rw [hi] at hx
    cases hx
    have := hl.airs l.air[i] (List.getElem_mem hil)
    omega
  · obtain ⟨i, hi⟩ := List.getElem?_of_mem ha
    simp only [mkT] at hi
    rw [List.getElem?_drop] at hi
    have hlt := (List.getElem?_eq_some_iff.1 hi).1
    have hrl : l.air.length + i < l.rs.length := by rw [← h.len]; exact hlt
    obtain ⟨x, hx, h1, h2⟩ := h.at (List.getElem?_eq_getElem hrl)
    rw [hi] at hx
    cases hx
    have := hl.rsOk _ (List.getElem_mem hrl)
    omega
theorem lexT_ok {l : LoftD} (hl : LOk l) : ∀ t ∈ lexT l, TOk l t := by
  intro t ht
  obtain ⟨xs, hf, rfl, _⟩ := (mem_truthsR hl).1 ((mem_lexT hl).1 ht)
  exact fits_tok hl hf
theorem nums_nodup (r : Rg) : r.nums.Nodup := by
  unfold Rg.nums List.Nodup
  rw [List.pairwise_map]
  exact List.nodup_range.imp fun h e => h (by omega)
theorem nodup_flat {xs : List Int} {ys : List (List Int)} (hx : xs.Nodup) (hy : ys.Nodup) : (xs.flatMap fun x => ys.map (x :: ·)).Nodup := by
  induction xs with
  | nil => simp
  | cons x xs ih =>
    rw [List.nodup_cons] at hx
    rw [List.flatMap_cons, List.nodup_append]
    refine ⟨?_, ih hx.2, ?_⟩
    · unfold List.Nodup
      rw [List.pairwise_map]
      exact List.Pairwise.imp (fun h e => h (by simpa using e)) hy
    · intro a ha b hb e
      obtain ⟨c, _, rfl⟩ := List.mem_map.1 ha
      obtain ⟨x', hx', hb'⟩ := List.mem_flatMap.1 hb
      obtain ⟨d, _, rfl⟩ := List.mem_map.1 hb'
      simp at e
      exact hx.1 (e.1 ▸ hx')
theorem enumL_nodup : ∀ rs : List Rg, (enumL rs).Nodup
  | [] => by simp [enumL]
  | r :: rs => nodup_flat (nums_nodup r) (enumL_nodup rs)
theorem flatMap_len {xs : List Int} {ys : List (List Int)} : (xs.flatMap fun x => ys.map (x :: ·)).length = xs.length * ys.length := by
  induction xs with
  | nil => simp
  | cons x xs ih => rw [List.flatMap_cons, List.length_append, ih, List.length_map, List.length_cons, Nat.succ_mul]; omega
theorem enumL_len : ∀ {rs : List Rg}, (∀ r ∈ rs, r.lo ≤ r.hi) → ((enumL rs).length : Int) = prodL (rs.map Rg.size)
  | [], _ => rfl
  | r :: rs, h => by
    have h1 := h r (by simp)
    have h2 : ((r.nums.length : Nat) : Int) = r.size := by simp [Rg.nums, Rg.size]; omega
    rw [enumL, flatMap_len, Int.natCast_mul, h2, enumL_len (fun q hq => h q (by simp [hq]))]
    rfl
theorem enumL_le {l : LoftD} (hl : LOk l) : (enumL l.rs).length ≤ 2000 := by
  have hp : ∀ s ∈ l.sizes, 1 ≤ s := fun s hs => by
    rw [LoftD.sizes_eq] at hs
    obtain ⟨r, hr, rfl⟩ := List.mem_map.1 hs
    have := hl.rsOk r hr
    unfold Rg.size; omega
  have hc := capMul_prod hp hl.many
  have := enumL_len (rs := l.rs) (fun r hr => (hl.rsOk r hr).2.1)
  rw [← LoftD.sizes_eq, ← hc] at this
  have := hl.many
  omega
end Go.Proofs.YtenfnakhijobkaaGreat
namespace Go.Proofs.YtenfnakhijobkaaGreat
open Go.RowKit

/-- The blocks from lo to hi lie as they lay. -/
structure KeepR (lo hi : Nat) (w w' : World) : Prop where
  size : w.heap.size ≤ w'.heap.size
  same : ∀ k, lo ≤ k → k < hi → w'.heap[k]? = w.heap[k]?
theorem KeepR.refl (lo hi : Nat) (w : World) : KeepR lo hi w w := ⟨Nat.le_refl _, fun _ _ _ => rfl⟩
theorem KeepR.trans {lo hi : Nat} {a b c : World} (h : KeepR lo hi a b) (k : KeepR lo hi b c) : KeepR lo hi a c := ⟨Nat.le_trans h.size k.size, fun i h1 h2 => (k.same i h1 h2).trans (h.same i h1 h2)⟩
theorem KeepR.mono {lo hi lo' hi' : Nat} {a b : World} (h : KeepR lo hi a b) (h1 : lo ≤ lo') (h2 : hi' ≤ hi) : KeepR lo' hi' a b := ⟨h.size, fun k a b => h.same k (by omega) (by omega)⟩
theorem KeepR.below {lo hi B : Nat} {a b : World} (h : Below B a b) (hB : hi ≤ B) : KeepR lo hi a b := ⟨h.size, fun k _ h2 => h.block k (by omega)⟩
theorem KeepR.grown {lo hi : Nat} {a b : World} {row : Option Nat} (h : a.grownBy b row) (hs : hi ≤ a.heap.size) (hr : ∀ r, row = some r → r < lo ∨ hi ≤ r) : KeepR lo hi a b :=
  ⟨h.size, fun k h1 h2 => h.block k (by omega) (fun e => by have := hr k e.symm; omega)⟩
def AbidesR {α : Type} (lo : Nat) (J : Nat → List α → World → Prop) : Prop := ∀ (hi : Nat) (pre : List α) (A B : World) (row : Option Nat), J hi pre A → A.grownBy B row → (∀ r, row = some r → lo ≤ r ∧ r < hi) → J hi pre B

/-- Function gf, with what it has captured, hands all of a list to yield, one by one, as long as yield says so; it keeps its state in blocks from lo to hi. -/
def Iter {α : Type} (P : Program) (gf : Nat) (lb : Array Value) (enc : α → Value) (all : List α) (Inv : World → Prop) (w0 : World) : Prop :=
  ∀ (l n : Nat) (J : Nat → List α → World → Prop) (Jx : World → Prop) (W : World), Below w0.heap.size w0 W → AbidesR W.heap.size J → (∀ hi pre W', J hi pre W' → Inv W') →
    (∀ (hi : Nat) (pre : List α) (x : α) (W1 : World) (m : Nat), W.heap.size ≤ hi → hi ≤ W1.heap.size → J hi pre W1 → (pre ++ [x]) <+: all →
      YieldAt Fence.wide m P l #[enc x] W1 fun e W' => (e = .returned (.bool true) ∧ J hi (pre ++ [x]) W' ∧ KeepR W.heap.size hi W1 W') ∨ (e = .returned (.bool false) ∧ Jx W')) →
    (∀ (hi : Nat) (W' : World), W.heap.size ≤ hi → hi ≤ W'.heap.size → Below W.heap.size W W' → J hi [] W') →
    CallsIn Fence.wide n P gf (#[.func (.yield l) #[] #[]] ++ lb) W fun e W' => (∃ v, e = .returned v) ∧ ((∃ hi, W.heap.size ≤ hi ∧ hi ≤ W'.heap.size ∧ J hi all W') ∨ Jx W')

/-- How a round's body may be left. -/
def iterPost {α : Type} (lo hi : Nat) (I : Nat → List α → World → Prop) (Ix : World → Prop) (pre : List α) (W : World) : Exit → Act → World → Prop
  | .normal, _, W' => KeepR lo hi W W' ∧ I hi pre W'
  | .ret, _, W' => KeepR lo (lo + 2) W W' ∧ Ix W'
  | _, _, _ => False
theorem iterPost_noout {α : Type} {lo hi : Nat} {I : Nat → List α → World → Prop} {Ix : World → Prop} {pre : List α} {W : World} : ¬ LetsOut (iterPost lo hi I Ix pre W) := fun ⟨_, _, h⟩ => h

theorem wpIn_iter {α : Type} {P : Program} {n : Nat} {g : Operand} {ps : Array Tmp} {assign body : Code} {Q : Exit → Act → World → Prop} {a : Act} {w : World} {gf : Nat} {lb : Array Value} {enc : α → Value} {all : List α} {Inv : World → Prop}
    (hg : a.eval g = .func (.func gf) #[] lb) (eg : ∀ args w, (callFunc gf args).run P w = .ok (.enter gf args) w) (it : Iter P gf lb enc all Inv w) (hps : ps.size = 1)
    (I : Nat → List α → World → Prop) (Ix : World → Prop) (hI : AbidesR w.heap.size I) (hInv : ∀ hi pre W', I hi pre W' → Inv W') (hIx : ∀ (A B : World) (row : Option Nat), Ix A → A.grownBy B row → (∀ r, row = some r → w.heap.size ≤ r ∧ r < w.heap.size + 2) → Ix B)
    (h0 : ∀ (hi : Nat) (W' : World), w.heap.size + 2 ≤ hi → hi ≤ W'.heap.size → Below w.heap.size w W' → I hi [] W')
    (hround : ∀ (l hi m : Nat) (pre : List α) (x : α) (W : World), w.heap.size + 2 ≤ hi → hi ≤ W.heap.size → I hi pre W → (pre ++ [x]) <+: all →
      assign.wpIn (Fence.wide.inRound l) m P (Exit.then (fun a' W' => Below W.heap.size W W' ∧ ∀ W'', W'.grownBy W'' (some (w.heap.size + 1)) → I hi pre W'' →
        body.wpIn (Fence.wide.inRound l) m P (iterPost w.heap.size hi I Ix (pre ++ [x]) W'') a' W'') (fun _ _ _ => False)) { tmps := (ps.zip #[enc x]).foldl (fun t (p, v) => t.setIfInBounds p v) a.tmps, defers := [] } W)
    (hdone : ∀ (hi : Nat) (W : World), w.heap.size + 2 ≤ hi → hi ≤ W.heap.size → I hi all W → W.heap[w.heap.size]? = some (.deferred (some [])) → Q .normal { a with defers := { target := .collected w.heap.size, args := #[] } :: a.defers } W)
    (hstop : ∀ (W : World), Ix W → W.heap[w.heap.size]? = some (.deferred (some [])) → Code.ret.wpIn Fence.wide n P Q { a with defers := { target := .collected w.heap.size, args := #[] } :: a.defers } W) :
    (Code.rangeFunc g ps assign body).wpIn Fence.wide n P Q a w := by
  refine wpIn_rangeFunc ?_
  intro fn hfn
  rw [show Fence.wide.round = none from rfl]
  obtain ⟨rec, hrec⟩ : ∃ rec : LoopState → Option Code → Loop, rec = fun st pe => { state := st, pending := pe, fn, tmps := a.tmps, params := ps, assign, body, defers := w.heap.size } := ⟨_, rfl⟩
  obtain ⟨W1, hW1⟩ : ∃ W1, (w.alloc (.deferred (some []))).alloc (.loop (rec .ready none)) = W1 := ⟨_, rfl⟩
  have hs1 : W1.heap.size = w.heap.size + 2 := by rw [← hW1]; simp
  have hL1 : W1.heap[w.heap.size + 1]? = some (.loop (rec .ready none)) := by
    rw [← hW1]; have := World.alloc_heap_new (w.alloc (.deferred (some []))) (.loop (rec .ready none)); rwa [World.size_alloc] at this
  have hK1 : W1.heap[w.heap.size]? = some (.deferred (some [])) := by
    rw [← hW1]; exact (Below.heap_alloc _ _ _ (by simp)).trans (World.alloc_heap_new w _)
  have hb1 : Below w.heap.size w W1 := by rw [← hW1]; exact ((Below.refl _ w).alloc (Nat.le_refl _) _).alloc (by simp) _
  have hd0 : Fence.wide.depth.isSome = true → 1 ≤ n := fun h => by simp [Fence.wide] at h
  refine ⟨w.heap.size + 1, [{ target := .collected w.heap.size, args := #[] }], W1, { target := .fn (.func gf) lb, args := #[.func (.yield (w.heap.size + 1)) #[] #[]] }, W1, gf,
    #[.func (.yield (w.heap.size + 1)) #[] #[]] ++ lb, W1, ?_, ?_, ?_, ?_, hd0, ?_⟩
  · rw [← hW1, hrec]; exact run_enterLoop_outer _ _ _ _ _
  · simp only [resolve, hg]
    simp [go_sem]
  · intro f' _; trivial
  · simp [invoke, go_sem, eg]
  · refine (it (w.heap.size + 1) (n - 1)
      (fun hi pre W => I hi pre W ∧ W.heap[w.heap.size + 1]? = some (.loop (rec .ready none)) ∧ W.heap[w.heap.size]? = some (.deferred (some [])))
      (fun W => Ix W ∧ W.heap[w.heap.size + 1]? = some (.loop (rec .done (some .ret))) ∧ W.heap[w.heap.size]? = some (.deferred (some [])))
      W1 hb1
      (fun hi pre A B row hs hg' hr => ⟨hI hi pre A B row hs.1 hg' (fun r e => by have := hr r e; omega), (hg'.block _ (Array.getElem?_eq_some_iff.1 hs.2.1).1 (fun e => by have := hr _ e.symm; omega)).trans hs.2.1,
        (hg'.block _ (Array.getElem?_eq_some_iff.1 hs.2.2).1 (fun e => by have := hr _ e.symm; omega)).trans hs.2.2⟩)
      (fun hi pre W' hh => hInv hi pre W' hh.1) ?_ ?_).mono ?_
    · rintro hi pre x W m hhi hsz ⟨hJ, hl, hk⟩ hpre
      have hlt : w.heap.size + 1 < W.heap.size := (Array.getElem?_eq_some_iff.1 hl).1
      have hy := run_yield (P := P) (args := #[enc x]) hl (by rw [hrec]; exact hps.symm)
      rw [hrec] at hy
      refine ⟨fn, _, assign, body, hy, roundIn_of_wpIn hfn (wpIn_mono (hround _ hi m pre x W (by omega) hsz hJ hpre) ?_)⟩
      clear hy
      rintro e0 a' Wa hp0
      cases e0 with
      | normal => ?_
      | ret => exact hp0.elim
      | exit id => exact hp0.elim
      | goto t => exact hp0.elim
      | panic ch => exact hp0.elim
      | outgrown => exact hp0.elim
      obtain ⟨hba, hbody⟩ := hp0
      have hl := (hba.block _ hlt).trans hl
      have hk := (hba.block _ (by omega : w.heap.size < W.heap.size)).trans hk
      have hlt' : w.heap.size + 1 < Wa.heap.size := (Array.getElem?_eq_some_iff.1 hl).1
      refine ⟨_, run_beginRound hl (by rw [hrec]), ?_⟩
      obtain ⟨Wb, hWb⟩ : ∃ Wb, Wa.putObj (w.heap.size + 1) (.loop { rec .ready none with state := .busy }) = Wb := ⟨_, rfl⟩
      have hgb : Wa.grownBy Wb (some (w.heap.size + 1)) := by rw [← hWb]; exact grownBy_putObj' _ _ _
      have hl2 : Wb.heap[w.heap.size + 1]? = some (.loop { rec .ready none with state := .busy }) := by rw [← hWb]; exact World.putObj_heap_same hlt'
      have hk2 : Wb.heap[w.heap.size]? = some (.deferred (some [])) := by rw [← hWb]; exact (World.putObj_heap_other (by omega)).trans hk
      rw [hWb]
      have hJa := hI hi pre W Wa none hJ (grown_below hba none) (fun _ e => by cases e)
      have hJb := hI hi pre Wa Wb _ hJa hgb (fun r e => by cases e; omega)
      have hszb : W.heap.size ≤ Wb.heap.size := Nat.le_trans hba.size hgb.size
      have kW : KeepR W1.heap.size hi W Wb := (KeepR.below hba hsz).trans (KeepR.grown hgb (by have := hba.size; omega) (fun r e => by cases e; omega))
      refine wpIn_mono (hbody Wb hgb hJb) ?_
      have fin : ∀ (jump : Option Code) (W3 : World), KeepR w.heap.size (w.heap.size + 2) Wb W3 →
          (Instr.endRound (w.heap.size + 1) jump).run P W3 = .ok (.bool jump.isNone) (W3.putObj (w.heap.size + 1) (.loop (rec (if jump.isNone then .ready else .done) jump))) ∧
          (W3.putObj (w.heap.size + 1) (.loop (rec (if jump.isNone then .ready else .done) jump))).heap[w.heap.size + 1]? = some (.loop (rec (if jump.isNone then .ready else .done) jump)) ∧
          (W3.putObj (w.heap.size + 1) (.loop (rec (if jump.isNone then .ready else .done) jump))).heap[w.heap.size]? = some (.deferred (some [])) ∧
          W3.grownBy (W3.putObj (w.heap.size + 1) (.loop (rec (if jump.isNone then .ready else .done) jump))) (some (w.heap.size + 1)) := fun jump W3 hk3 => by
        have hl3 := (hk3.same (w.heap.size + 1) (by omega) (by omega)).trans hl2
        have := run_endRound (P := P) jump hl3
        rw [hrec] at this ⊢
        exact ⟨this, World.putObj_heap_same (Array.getElem?_eq_some_iff.1 hl3).1, (World.putObj_heap_other (by omega)).trans ((hk3.same w.heap.size (Nat.le_refl _) (by omega)).trans hk2), grownBy_putObj' _ _ _⟩
      rintro e a3 W3 hp
      cases e with
      | normal =>
        obtain ⟨hk3, hi3⟩ := hp
        obtain ⟨hr, hl4, hk4, hg4⟩ := fin none W3 (hk3.mono (Nat.le_refl _) (by omega))
        refine ⟨_, _, hr, .inl ⟨rfl, ⟨hI _ _ _ _ _ hi3 hg4 (fun r e => by cases e; omega), hl4, hk4⟩, ?_⟩⟩
        exact (kW.trans (hk3.mono (by omega) (Nat.le_refl _))).trans (KeepR.grown hg4 (by have := hk3.size; omega) (fun r e => by cases e; omega))
      | ret =>
        obtain ⟨hk3, hi3⟩ := hp
        obtain ⟨hr, hl4, hk4, hg4⟩ := fin (some .ret) W3 hk3
        exact ⟨_, _, hr, .inr ⟨rfl, hIx _ _ _ hi3 hg4 (fun r e => by cases e; omega), hl4, hk4⟩⟩
      | exit id => exact hp.elim
      | goto t => exact hp.elim
      | panic ch => exact hp.elim
      | outgrown => exact hp.elim
    · intro hi W' h1 h2 hb
      exact ⟨h0 hi W' (by omega) h2 (hb1.trans (hb.mono (by omega))), (hb.block _ (by omega)).trans hL1, (hb.block _ (by omega)).trans hK1⟩
    · rintro e W2 ⟨⟨v, rfl⟩, (⟨hi, h1, h2, hi2, hl, hk⟩ | ⟨hi2, hl, hk⟩)⟩
      · refine ⟨none, _, by have := run_endLoop (P := P) hl (by rw [hrec]; simp); rw [hrec] at this; exact this, hdone hi _ (by omega) (by simpa using h2) (hI _ _ _ _ _ hi2 (grownBy_putObj' _ _ _) (fun r e => by cases e; omega)) ((World.putObj_heap_other (by omega)).trans hk)⟩
      · refine ⟨some .ret, _, by have := run_endLoop (P := P) hl (by rw [hrec]; simp); rw [hrec] at this; exact this, hstop _ (hIx _ _ _ hi2 (grownBy_putObj' _ _ _) (fun r e => by cases e; omega)) ((World.putObj_heap_other (by omega)).trans hk)⟩
end Go.Proofs.YtenfnakhijobkaaGreat
namespace Go.Proofs.YtenfnakhijobkaaGreat
open Go.RowKit Go.Proofs.YtenfnakhijobkaaGreatW.PrintLast
attribute [local go_sem] Oper.semAt_some

/-- An iterator's blocks: as in Wc, but for the one that holds the numbers chosen now. -/
structure Zone (Wc : World) (lo hi Bn : Nat) (cs : Array Value) (T : TypeId) (W : World) : Prop where
  size : hi ≤ W.heap.size
  same : ∀ k, lo ≤ k → k < hi → k ≠ Bn → W.heap[k]? = Wc.heap[k]?
  now : Box W Bn cs T
section
variable {Wc W W' : World} {lo hi Bn : Nat} {cs : Array Value} {T : TypeId}
theorem Zone.keep (h : Zone Wc lo hi Bn cs T W) (hb : lo ≤ Bn ∧ Bn < hi) (k : KeepR lo hi W W') : Zone Wc lo hi Bn cs T W' :=
  ⟨Nat.le_trans h.size k.size, fun i a b c => (k.same i a b).trans (h.same i a b c), ⟨(k.same Bn hb.1 hb.2).trans h.now.at_⟩⟩
theorem Zone.below (h : Zone Wc lo hi Bn cs T W) (hb : lo ≤ Bn ∧ Bn < hi) (k : Below W.heap.size W W') : Zone Wc lo hi Bn cs T W' := h.keep hb (KeepR.below k h.size)
theorem Zone.set (h : Zone Wc lo hi Bn cs T W) (k : Nat) (u : Value) : Zone Wc lo hi Bn (cs.setIfInBounds k u) T (W.setCell ⟨Bn, k, none⟩ u) :=
  ⟨by rw [World.size_setCell]; exact h.size, fun i a b c => (heap_setCell_other W ⟨Bn, k, none⟩ i u c).trans (h.same i a b c), h.now.set k u⟩
theorem Zone.cell (h : Zone Wc lo hi Bn cs T W) {b o : Nat} {v : Value} (h1 : lo ≤ b) (h2 : b < hi) (h3 : b ≠ Bn) (hc : Wc.cell? ⟨b, o, none⟩ = some v) : W.cell? ⟨b, o, none⟩ = some v := by
  rw [← hc]
  unfold World.cell?
  simp only [h.same b h1 h2 h3]
end
theorem wideD (k : Nat) : Fence.wide.depth.isSome = true → 1 ≤ k := fun h => by simp [Fence.wide] at h
abbrev arrOf (x : List Int) : Array Value := numsC (fun j => x.getD j 0)
def ChooseOut (Wc : World) (lo hi Bn N i : Nat) (f : Nat → Int) (J : List (List Int) → World → Prop) (Jx : World → Prop) (done : List (List Int)) (e : Ending) (W' : World) : Prop :=
  (e = .returned (.bool true) ∧ ∃ f', (∀ j, j < i → f' j = f j) ∧ (∀ j, N ≤ j → f' j = 0) ∧ Zone Wc lo hi Bn (numsC f') 228 W' ∧ J done W') ∨ (e = .returned (.bool false) ∧ Jx W')
set_option maxHeartbeats 4000000 in
set_option maxRecDepth 100000 in
theorem choose_leaf (lp lo hi Brs By Bn Bc : Nat) (rs : Sl) (L : List Rg) (Wc : World) (J : List (List Int) → World → Prop) (Jx : World → Prop) (all : List (List Int))
    (hLn : L.length ≤ 11) (hBrs : lo ≤ Brs ∧ Brs < hi ∧ Brs ≠ Bn) (hBy : lo ≤ By ∧ By < hi ∧ By ≠ Bn) (hBn : lo ≤ Bn ∧ Bn < hi)
    (c1 : Wc.cell? ⟨Brs, 0, none⟩ = some (.slice rs.a rs.n rs.c)) (c2 : Wc.cell? ⟨By, 0, none⟩ = some (.func (.yield lp) #[] #[]))
    (hrn : L.length = rs.n)
    (hY : ∀ pre x W1 m, hi ≤ W1.heap.size → J pre W1 → (pre ++ [x]) <+: all → YieldAt Fence.wide m Tryz.prog lp #[.agg (arrOf x)] W1 fun e W' => (e = .returned (.bool true) ∧ J (pre ++ [x]) W' ∧ KeepR lo hi W1 W') ∨ (e = .returned (.bool false) ∧ Jx W'))
    (p : List Int) (f : Nat → Int) (pre : List (List Int)) (W : World) (n : Nat) (hp : p.length = L.length) (hf : ∀ j, j < p.length → f j = p.getD j 0) (hf0 : ∀ j, L.length ≤ j → f j = 0)
    (hz : Zone Wc lo hi Bn (numsC f) 228 W) (hj : J pre W) (hall : (pre ++ [p]) <+: all) :
    CallsIn Fence.wide n Tryz.prog 180 #[.int .i64 (p.length : Int), .pointer (some ⟨Brs, 0, none⟩), .pointer (some ⟨By, 0, none⟩), .pointer (some ⟨Bn, 0, none⟩), .pointer (some ⟨Bc, 0, none⟩)] W (ChooseOut Wc lo hi Bn L.length p.length f J Jx (pre ++ [p])) := by
  have hfe : f = fun j => p.getD j 0 := by
    funext j
    by_cases h : j < p.length
    · exact hf j h
    · rw [hf0 j (by omega), List.getD_eq_getElem?_getD, List.getElem?_eq_none (by omega)]; rfl
  have e1 := hz.cell hBrs.1 hBrs.2.1 hBrs.2.2 c1
  have e2 := hz.cell hBy.1 hBy.2.1 hBy.2.2 c2
  have n0 := hz.now.cell 0 _ (numsC_at f (by decide))
  have n1 := hz.now.cell 1 _ (numsC_at f (by decide))
  have n2 := hz.now.cell 2 _ (numsC_at f (by decide))
  have n3 := hz.now.cell 3 _ (numsC_at f (by decide))
  have n4 := hz.now.cell 4 _ (numsC_at f (by decide))
  have n5 := hz.now.cell 5 _ (numsC_at f (by decide))
  have n6 := hz.now.cell 6 _ (numsC_at f (by decide))
  have n7 := hz.now.cell 7 _ (numsC_at f (by decide))
  have n8 := hz.now.cell 8 _ (numsC_at f (by decide))
  have n9 := hz.now.cell 9 _ (numsC_at f (by decide))
  have n10 := hz.now.cell 10 _ (numsC_at f (by decide))
  obtain ⟨fn, tmps, assign, body, hy, hR⟩ := hY pre p W (n - 1) hz.size hj hall
  rw [arrOf, ← hfe] at hy
  have HF0 := Lib.hid hf0
  have hpn : p.length = rs.n := by omega
  have HZ := Lib.hid hz
  have hr11 : rs.n ≤ 11 := by omega
  rw [hpn]
  clear hfe hf hf0 hp hrn hY hpn hz hj hall
  refine callsIn_of_wp Tryz.func180 rfl trivial ?_ rfl
  simp only [Tryz.ntmps180, List.size_toArray, List.length_cons, List.length_nil, Nat.reduceAdd, Nat.reduceSub, Array.replicate_succ, Array.replicate_zero, List.push_toArray, List.append_toArray, List.nil_append, List.cons_append]
  gi_wp2
  refine ⟨wideD _, hR.mono ?_⟩
  rintro e W3 (⟨rfl, hJ3, hk3⟩ | ⟨rfl, hJx3⟩)
  · gi_wp2
    go_ret
    exact .inl ⟨rfl, f, fun _ _ => rfl, HF0.out, HZ.out.keep hBn hk3, hJ3⟩
  · gi_wp2
    go_ret
    exact .inr ⟨rfl, hJx3⟩
theorem flatMap_snoc {α β : Type} (xs : List α) (x : α) (g : α → List β) : (xs ++ [x]).flatMap g = xs.flatMap g ++ g x := by simp
theorem nums_take {r : Rg} {k : Nat} (h : k < r.size.toNat) : r.nums.take (k + 1) = r.nums.take k ++ [r.lo + (k : Int)] := by
  unfold Rg.nums
  rw [← List.map_take, ← List.map_take, List.take_range, List.take_range, Nat.min_eq_left (by omega), Nat.min_eq_left (by omega), List.range_succ]
  simp
theorem nums_all {r : Rg} : r.nums.take r.size.toNat = r.nums := List.take_of_length_le (by simp [Rg.nums])
theorem prefix_mid {α : Type} {a b c all : List α} (h : (a ++ (b ++ c)) <+: all) : (a ++ b) <+: all := by
  obtain ⟨t, ht⟩ := h
  exact ⟨c ++ t, by rw [← ht]; simp⟩
set_option maxHeartbeats 4000000 in
set_option maxRecDepth 100000 in
theorem choose_in (lp lo hi Brs By Bn Bc : Nat) (rs : Sl) (L : List Rg) (Wc : World) (J : List (List Int) → World → Prop) (Jx : World → Prop) (all : List (List Int))
    (hLn : L.length ≤ 11) (hLr : ∀ r ∈ L, 0 ≤ r.lo ∧ r.lo ≤ r.hi ∧ r.hi ≤ 40) (hBrs : lo ≤ Brs ∧ Brs < hi ∧ Brs ≠ Bn) (hBy : lo ≤ By ∧ By < hi ∧ By ≠ Bn) (hBn : lo ≤ Bn ∧ Bn < hi) (hBc : lo ≤ Bc ∧ Bc < hi ∧ Bc ≠ Bn)
    (c1 : Wc.cell? ⟨Brs, 0, none⟩ = some (.slice rs.a rs.n rs.c)) (c2 : Wc.cell? ⟨By, 0, none⟩ = some (.func (.yield lp) #[] #[]))
    (c4 : Wc.cell? ⟨Bc, 0, none⟩ = some (.func (.func 180) #[] #[.pointer (some ⟨Brs, 0, none⟩), .pointer (some ⟨By, 0, none⟩), .pointer (some ⟨Bn, 0, none⟩), .pointer (some ⟨Bc, 0, none⟩)]))
    (hrs : ∀ W cs, Zone Wc lo hi Bn cs 228 W → RdRgs W rs L)
    (hJ : ∀ pre A B row, J pre A → A.grownBy B row → (∀ r, row = some r → lo ≤ r ∧ r < hi) → J pre B)
    (hY : ∀ pre x W1 m, hi ≤ W1.heap.size → J pre W1 → (pre ++ [x]) <+: all → YieldAt Fence.wide m Tryz.prog lp #[.agg (arrOf x)] W1 fun e W' => (e = .returned (.bool true) ∧ J (pre ++ [x]) W' ∧ KeepR lo hi W1 W') ∨ (e = .returned (.bool false) ∧ Jx W')) :
    ∀ (rest : List Rg) (p : List Int) (f : Nat → Int) (pre : List (List Int)) (W : World) (n : Nat), L.drop p.length = rest → p.length ≤ L.length → (∀ j, j < p.length → f j = p.getD j 0) → (∀ j, L.length ≤ j → f j = 0) →
      Zone Wc lo hi Bn (numsC f) 228 W → J pre W → (pre ++ (enumL rest).map (p ++ ·)) <+: all →
      CallsIn Fence.wide n Tryz.prog 180 #[.int .i64 (p.length : Int), .pointer (some ⟨Brs, 0, none⟩), .pointer (some ⟨By, 0, none⟩), .pointer (some ⟨Bn, 0, none⟩), .pointer (some ⟨Bc, 0, none⟩)] W (ChooseOut Wc lo hi Bn L.length p.length f J Jx (pre ++ (enumL rest).map (p ++ ·))) := by
  intro rest
  induction rest with
  | nil =>
    intro p f pre W n hrest hpl hf hf0 hz hj hall
    have hp : p.length = L.length := by
      have := congrArg List.length hrest
      simp at this
      omega
    have hrn : L.length = rs.n := (hrs W _ hz).len
    have := choose_leaf lp lo hi Brs By Bn Bc rs L Wc J Jx all hLn hBrs hBy hBn c1 c2 hrn hY p f pre W n hp hf hf0 hz hj (by simpa [enumL] using hall)
    simpa [enumL] using this
  | cons r rest ih =>
    intro p f pre W n hrest hpl hf hf0 hz hj hall
    obtain ⟨i, hi⟩ : ∃ i, p.length = i := ⟨_, rfl⟩
    rw [hi] at hrest hpl hf ⊢
    have hri : L[i]? = some r := by
      have := congrArg (·[0]?) hrest
      simpa using this
    have hrest' : L.drop (i + 1) = rest := by
      have := congrArg List.tail hrest
      simpa using this
    have hiL : i < L.length := lt_of_at hri
    have hr := hLr r (List.mem_of_getElem? hri)
    have hrn : L.length = rs.n := (hrs W _ hz).len
    have hin : i < rs.n := by omega
    have hi11 : i < 11 := by omega
    have hnle : rs.n ≤ 11 := by omega
    have hne : ((i : Int) == (rs.n : Int)) = false := by simp; omega
    obtain ⟨sz, hsz⟩ : ∃ sz : Nat, r.hi - r.lo + 1 = (sz : Int) := ⟨(r.hi - r.lo + 1).toNat, by omega⟩
    have hszn : r.size.toNat = sz := by unfold Rg.size; omega
    have hsz41 : sz ≤ 41 := by omega
    have e1 := hz.cell hBrs.1 hBrs.2.1 hBrs.2.2 c1
    obtain ⟨b, o, ha, hbl, hlo, hhi⟩ := (hrs W _ hz).rg_at hri
    rw [ha] at e1
    have HRS := Lib.hid hrs
    have HYY := Lib.hid hY
    have HJJ := Lib.hid hJ
    have HLr := Lib.hid hLr
    have HIH := Lib.hid ih
    have HI := Lib.hid hi
    have HREST := Lib.hid hrest'
    have HF := Lib.hid hf
    have HF0 := Lib.hid hf0
    have HA := Lib.hid ha
    have HRI := Lib.hid hri
    have HSZ := Lib.hid hsz
    have HSZN := Lib.hid hszn
    have HALL := Lib.hid hall
    have HLN := Lib.hid hrn
    have HC1 := Lib.hid c1
    have HC4 := Lib.hid c4
    have HZ := Lib.hid hz
    have HJ0 := Lib.hid hj
    clear hz hj hrs hY hJ hLr ih hi hrest' hf hf0 ha hri hszn hall hrest hrn c1 c4
    have hS := fun w => size_any r.lo r.hi w (by omega) (by omega) (by omega)
    rw [hsz] at hS
    have HS := Lib.hid hS
    clear hS hsz
    refine callsIn_of_wp Tryz.func180 rfl trivial ?_ rfl
    simp only [Tryz.ntmps180, List.size_toArray, List.length_cons, List.length_nil, Nat.reduceAdd, Nat.reduceSub, Array.replicate_succ, Array.replicate_zero, List.push_toArray, List.append_toArray, List.nil_append, List.cons_append]
    gi_wp2_with (refine ⟨trivial, wideD _, ?_⟩; gi_at_call 178; refine (callsIn_wide.2 (HS.out _)).mono ?_; rintro e w1 ⟨rfl, hb1⟩)
    have hz1 := HZ.out.below hBn hb1
    have hj1 := HJJ.out _ _ _ none HJ0.out (grown_below hb1 none) (fun _ e => by cases e)
    clear hb1 e1 hlo hhi hbl
    obtain ⟨G, hG⟩ : ∃ G : Int → List (List Int), G = fun x => (enumL rest).map ((p ++ [x]) ++ ·) := ⟨_, rfl⟩
    have HG := Lib.hid hG
    have HGA : Hid ((enumL (r :: rest)).map (p ++ ·) = r.nums.flatMap G) := by
      show _ = _
      rw [hG]
      simp only [enumL, List.map_flatMap, List.map_map]
      congr 1
      funext x
      congr 1
      funext q
      simp
    clear hG
    gi_loopw [20] (fun c wr => ∃ k : Nat, ∃ f' : Nat → Int, k ≤ sz ∧ c = .int .i64 k ∧ Hid (∀ j, j < i → f' j = f j) ∧ Hid (∀ j, L.length ≤ j → f' j = 0) ∧ Hid (Zone Wc lo hi Bn (numsC f') 228 wr) ∧ Hid (J (pre ++ (r.nums.take k).flatMap G) wr)) (fun c _ => sz - (intOf c).toNat)
    case atStart => exact ⟨0, f, Nat.zero_le _, rfl, (fun _ _ => rfl), HF0.out, hz1, by show J _ _; simpa using hj1⟩
    case round =>
      clear hz1 hj1
      obtain ⟨k, f', hk, rfl, HFA, HFB, HZ1, HJ1⟩ := hrel
      by_cases hlt : k < sz
      · have e1 := HZ1.out.cell hBrs.1 hBrs.2.1 hBrs.2.2 HC1.out
        rw [HA.out] at e1
        obtain ⟨b', o', ha', hbl, hlo, hhi⟩ := (HRS.out wr _ HZ1.out).rg_at HRI.out
        have hab := HA.out.symm.trans ha'
        obtain ⟨rfl, rfl⟩ : b = b' ∧ o = o' := by simpa using hab
        clear ha' hab
        have n0 := HZ1.out.now.cell i _ (numsC_at f' hi11)
        have nf := HZ1.out.now.free i
        have hz2 := HZ1.out.set i (.int .i64 (r.lo + (k : Int)))
        rw [numsC_set f' hi11] at hz2
        have e4 := hz2.cell hBc.1 hBc.2.1 hBc.2.2 HC4.out
        have hlen : (((p ++ [r.lo + (k : Int)]).length : Nat) : Int) = (i : Int) + 1 := by rw [List.length_append, HI.out]; simp
        have hlenN : (p ++ [r.lo + (k : Int)]).length = i + 1 := by rw [List.length_append, HI.out]; simp
        have hj2 := HJJ.out _ _ _ (some Bn) HJ1.out (grown_set (grown_rfl wr _) (k := i) (.int .i64 (r.lo + (k : Int)))) (fun r e => by cases e; exact hBn)
        have hpre : (pre ++ (r.nums.take k).flatMap G ++ (enumL rest).map ((p ++ [r.lo + (k : Int)]) ++ ·)) <+: all := by
          have h1 := HALL.out
          rw [HGA.out] at h1
          have h2 : r.nums = r.nums.take k ++ [r.lo + (k : Int)] ++ r.nums.drop (k + 1) := by
            rw [← nums_take (by rw [HSZN.out]; exact hlt)]; simp
          rw [h2, List.flatMap_append, flatMap_snoc, ← List.append_assoc, HG.out] at h1
          have h3 := prefix_mid (c := []) (by simpa using h1)
          obtain ⟨t, ht⟩ := h1
          exact ⟨_, by rw [← ht, ← HG.out]; simp [List.append_assoc, HG.out]; rfl⟩
        have hI := HIH.out (p ++ [r.lo + (k : Int)]) (putF f' i (r.lo + (k : Int))) (pre ++ (r.nums.take k).flatMap G) _ (n - 1) (by rw [hlenN]; exact HREST.out) (by rw [hlenN]; omega)
          (fun j hj => by
            rw [hlenN] at hj
            unfold putF
            by_cases e : j = i
            · rw [if_pos e, e, List.getD_eq_getElem?_getD, List.getElem?_append_right (by rw [HI.out]; exact Nat.le_refl _), HI.out]; simp
            · rw [if_neg e, HFA.out j (by omega), HF.out j (by omega), List.getD_eq_getElem?_getD, List.getD_eq_getElem?_getD, List.getElem?_append_left (by rw [HI.out]; omega)])
          (fun j hj => by unfold putF; rw [if_neg (by omega)]; exact HFB.out j hj) hz2 hj2 hpre
        rw [hlen, hlenN] at hI
        have HII := Lib.hid hI
        clear hI hlen hlenN hj2 hpre hz2
        gi_wp2_with (refine ⟨trivial, wideD _, ?_⟩; gi_at_call 180; refine HII.out.mono ?_; rintro e w3 (⟨rfl, f3, g1, g2, g3, g4⟩ | ⟨rfl, hx⟩))
        · go_roundw
          case measure => simp [intOf]; omega
          case rel =>
            refine ⟨k + 1, f3, by omega, by go_num, (fun j hj => by rw [g1 j (by omega)]; unfold putF; rw [if_neg (by omega)]; exact HFA.out j hj), g2, g3, ?_⟩
            show J _ _
            rw [nums_take (by rw [HSZN.out]; exact hlt), flatMap_snoc, ← List.append_assoc]
            have hgk : G (r.lo + (k : Int)) = (enumL rest).map ((p ++ [r.lo + (k : Int)]) ++ ·) := by rw [HG.out]
            rw [hgk]
            exact g4
        · go_ret
          exact .inr ⟨rfl, hx⟩
      · obtain rfl : k = sz := by omega
        have HJE := HJ1.out
        have hall : r.nums.take k = r.nums := by rw [← HSZN.out]; exact nums_all
        rw [hall, ← HGA.out] at HJE
        have HJF := Lib.hid HJE
        clear HJE hall
        gi_wp2
        go_ret
        exact .inl ⟨rfl, f', HFA.out, HFB.out, HZ1.out, HJF.out⟩
end Go.Proofs.YtenfnakhijobkaaGreat
namespace Go.Proofs.YtenfnakhijobkaaGreat
open Go.RowKit Go.Proofs.YtenfnakhijobkaaGreatW.PrintLast
attribute [local go_sem] Oper.semAt_some
theorem truths_any (v : LoftV) (w : World) :
    Calls Tryz.prog 149 #[.agg v.cs] w fun e w' => e = .returned (.func (.func 179) #[] #[.pointer (some ⟨w.heap.size, 0, none⟩)]) ∧ w.alloc (.cells v.cs 44) = w' := by
  go_enter Tryz.func149, Tryz.ntmps149
  go_wp2
  go_ret
  exact ⟨rfl, rfl⟩
theorem Zone.refl {W : World} {lo hi Bn : Nat} {cs : Array Value} {T : TypeId} (h : hi ≤ W.heap.size) (hb : Box W Bn cs T) : Zone W lo hi Bn cs T W := ⟨h, fun _ _ _ _ => rfl, hb⟩
set_option maxHeartbeats 4000000 in
set_option maxRecDepth 100000 in
theorem truths_iter (v : LoftV) (l : LoftD) (hl : LOk l) (Bl : Nat) (w0 : World) (h : RdLoft w0 v l) (hB : Box w0 Bl v.cs 44) :
    Iter Tryz.prog 179 #[.pointer (some ⟨Bl, 0, none⟩)] (fun x => .agg (arrOf x)) (enumL l.rs) (fun _ => True) w0 := by
  intro lp n J Jx W hW hJ _ hY h0
  have hal := hl.air
  have hl5 := hl.last5
  have hc5 := hl.cakes5
  obtain ⟨W1, hNW1, BX1, hW1, hzW1⟩ := Box.named W #[.func (.yield lp) #[] #[]] 247
  have hw1 := below_on hW hW1
  have c0 := (hB.lift hw1).cell 0 (.int .i64 v.last) rfl
  have c1 := (hB.lift hw1).cell 1 (.slice v.air.a v.air.n v.air.c) rfl
  have c2 := (hB.lift hw1).cell 2 (.slice v.shelves.a v.shelves.n v.shelves.c) rfl
  have c3 := (hB.lift hw1).cell 3 (.slice v.cakes.a v.cakes.n v.cakes.c) rfl
  have c4 := (hB.lift hw1).cell 4 (.slice v.put.a v.put.n v.put.c) rfl
  have c5 := (hB.lift hw1).cell 5 (.slice v.weights.a v.weights.n v.weights.c) rfl
  have HR := Lib.hid (ranges_any v l W1 (h.below hw1) (by omega) hc5)
  have HJ := Lib.hid hJ
  have HY := Lib.hid hY
  have H0 := Lib.hid h0
  clear hJ hY h0
  refine callsIn_of_wp Tryz.func179 rfl trivial ?_ rfl
  simp only [Tryz.ntmps179, List.size_toArray, List.length_cons, List.length_nil, Nat.reduceAdd, Nat.reduceSub, Array.replicate_succ, Array.replicate_zero, List.push_toArray, List.append_toArray, List.nil_append, List.cons_append]
  have HRS := Lib.hid hl.rsOk
  have hLn : l.rs.length ≤ 11 := by simp only [LoftD.rs, List.length_append, List.length_map]; omega
  clear hal hl5 hc5
  gi_wp2_with (first
    | (refine ⟨trivial, wideD _, ?_⟩
       gi_at_call 176
       refine (callsIn_wide.2 HR.out).mono ?_
       rintro e w1 ⟨rs, rfl, hfr, hb1⟩
       obtain ⟨W2, hNW2, BX2, hW2, hzW2⟩ := Box.named w1 #[.slice rs.a rs.n rs.c] 39
       obtain ⟨W3, hNW3, BX3, hW3, hzW3⟩ := Box.named W2 (numsC (fun _ => 0)) 228
       obtain ⟨W4, hNW4, BX4, hW4, hzW4⟩ := Box.named W3 #[.func (.func 180) #[] #[.pointer (some ⟨w1.heap.size, 0, none⟩), .pointer (some ⟨W.heap.size, 0, none⟩), .pointer (some ⟨W2.heap.size, 0, none⟩), .pointer (some ⟨W3.heap.size, 0, none⟩)]] 141
       have e4 := BX4.cell 0 (.func (.func 180) #[] #[.pointer (some ⟨w1.heap.size, 0, none⟩), .pointer (some ⟨W.heap.size, 0, none⟩), .pointer (some ⟨W2.heap.size, 0, none⟩), .pointer (some ⟨W3.heap.size, 0, none⟩)]) rfl)
    | (refine ⟨trivial, wideD _, ?_⟩
       gi_at_call 180
       have s1 := hzW1.out
       have s2 := hb1.size
       have s3 := hzW2.out
       have s4 := hzW3.out
       have s5 := hzW4.out
       have d4 := hW4
       have d3 := below_on hW3 d4
       have d2 := below_on hW2 d3
       have d1 := below_on hb1 d2
       have d0 := below_on hW1 d1
       refine (choose_in lp W.heap.size W4.heap.size w1.heap.size W.heap.size W2.heap.size W3.heap.size rs l.rs W4 (J W4.heap.size) Jx (enumL l.rs) hLn HRS.out (by omega) (by omega) (by omega) (by omega)
         (((BX2.lift hW3).lift hW4).cell 0 _ rfl) ((BX1.lift d1).cell 0 _ rfl) e4
         (fun W' cs hz => hfr W' (by have := hz.size; omega) (fun k h1 h2 => (hz.same k (by omega) (by omega) (by omega)).trans (d2.block k h2)))
         (fun pre A B row a b c => HJ.out _ pre A B row a b c) (fun pre x W1 m h1 h2 h3 => HY.out _ pre x W1 m (by omega) h1 h2 h3)
         l.rs [] (fun _ => 0) [] W4 _ rfl (Nat.zero_le _) (fun j hj => absurd hj (Nat.not_lt_zero j)) (fun _ _ => rfl)
         (Zone.refl (Nat.le_refl _) ((BX3.lift hW4))) (H0.out _ W4 (by omega) (Nat.le_refl _) d0) (by simp)).mono ?_
       rintro e w5 (⟨rfl, f5, _, _, hz5, hj5⟩ | ⟨rfl, hx5⟩)))
  · go_end0
    exact ⟨⟨_, rfl⟩, .inl ⟨W4.heap.size, by have := hzW1.out; have := hb1.size; have := hW2.size; have := hW3.size; have := hW4.size; omega, hz5.size, by simpa using hj5⟩⟩
  · go_end0
    exact ⟨⟨_, rfl⟩, .inr hx5⟩
end Go.Proofs.YtenfnakhijobkaaGreat
