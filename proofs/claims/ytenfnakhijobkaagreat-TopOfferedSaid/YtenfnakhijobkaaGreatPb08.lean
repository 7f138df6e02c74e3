/- A market at work, or the error. Conditions: the market reads as it does. The first sale at which a chest can be sold; whether a plan is possible. Conditions: the market reads as it does. Whether a plan of the first chests is possible. Conditions: the market at work reads as it does; the plan names sales or none. -/
import Derived.Test.YtenfnakhijobkaaGreatPb07
set_option linter.unusedVariables false
set_option linter.unusedSimpArgs false
namespace Go.Proofs.YtenfnakhijobkaaGreat
open Go.RowKit Go.Proofs.YtenfnakhijobkaaGreatW.PrintLast
attribute [local go_sem] Oper.semAt_some
def Calm (Q : Exit → Act → World → Prop) : Exit → Act → World → Prop
  | .normal, a, w => Q .normal a w
  | _, _, _ => False
theorem wp_calm {P : Program} {c : Code} {Q : Exit → Act → World → Prop} {a : Act} {w : World} (h : c.wp P (Calm Q) a w) : c.wp P Q a w :=
  wp_mono h (fun e a w hq => by cases e <;> first | exact hq | exact hq.elim)
theorem calm_ {Q : Exit → Act → World → Prop} {a : Act} {w : World} (h : Q .normal a w) : Calm Q .normal a w := h
abbrev swCs (v : MktV) (r : Nat) (vv : Value) : Array Value := #[.int .i64 v.loft.last, .slice v.loft.air.a v.loft.air.n v.loft.air.c, .slice v.loft.shelves.a v.loft.shelves.n v.loft.shelves.c, .slice v.loft.cakes.a v.loft.cakes.n v.loft.cakes.c, .slice v.loft.put.a v.loft.put.n v.loft.put.c, .slice v.loft.weights.a v.loft.weights.n v.loft.weights.c,
  .slice v.sales.a v.sales.n v.sales.c, .slice v.chests.a v.chests.n v.chests.c, .int .i64 v.step, .int .i64 v.lots, .slice v.notes.a v.notes.n v.notes.c, .map (some r), vv]
/-- Between two rounds. -/
def SaleI (v : MktV) (m : MktD) (r B : Nat) (W6 : World) (hi : Nat) (pre : List (List Int)) (W : World) : Prop :=
  ∃ vv, Box W B (swCs v r vv) 145 ∧ W.ownsRow hi 167 4 vv (dnP m pre).length ((dnP m pre).flatMap prCs) ∧ W6.grownBy W (some B)
theorem SaleI.abides {v : MktV} {m : MktD} {r B : Nat} {W6 : World} (hB : B < W6.heap.size) : AbidesR W6.heap.size (SaleI v m r B W6) := by
  rintro hi pre A A' row ⟨vv, h1, h2, h3⟩ hg hr
  refine ⟨vv, h1.grown hg (fun e => by have := hr _ e; omega), h2.kept hg ?_, grown_far h3 hg (fun r e => (hr r e).1)⟩
  cases ho : vv.ownBlock with
  | none => exact Or.inl rfl
  | some b =>
    right
    intro e
    have h4 := h2.lt b ho
    have := hr b e.symm
    omega
theorem work_err (v : MktV) (m : MktD) (w : World) (h : RdMkt w v m) (hne : mktFault m ≠ 0) :
    Calls Tryz.prog 86 #[.agg v.cs] w (AskedErr w (mktFault m)) := by
  obtain ⟨d, hd⟩ : ∃ d, mktFault m = d := ⟨_, rfl⟩
  have hC := fun w (h : RdMkt w v m) => CheckMarket_any v m w h
  rw [hd] at hne hC ⊢
  have hnb : (d != 0) = true := by simp [hne]
  have HC := Lib.hid hC
  clear hC hd
  obtain ⟨W0, hNW0, BX, hW0, hzW0⟩ := Box.named w v.cs 49
  have c0 := BX.cell 0 (.int .i64 v.loft.last) rfl
  have c1 := BX.cell 1 (.slice v.loft.air.a v.loft.air.n v.loft.air.c) rfl
  have c2 := BX.cell 2 (.slice v.loft.shelves.a v.loft.shelves.n v.loft.shelves.c) rfl
  have c3 := BX.cell 3 (.slice v.loft.cakes.a v.loft.cakes.n v.loft.cakes.c) rfl
  have c4 := BX.cell 4 (.slice v.loft.put.a v.loft.put.n v.loft.put.c) rfl
  have c5 := BX.cell 5 (.slice v.loft.weights.a v.loft.weights.n v.loft.weights.c) rfl
  have c6 := BX.cell 6 (.slice v.sales.a v.sales.n v.sales.c) rfl
  have c7 := BX.cell 7 (.slice v.chests.a v.chests.n v.chests.c) rfl
  have c8 := BX.cell 8 (.int .i64 v.step) rfl
  have c9 := BX.cell 9 (.int .i64 v.lots) rfl
  have c10 := BX.cell 10 (.slice v.notes.a v.notes.n v.notes.c) rfl
  have HR := Lib.hid (h.below hW0)
  go_enter Tryz.func86, Tryz.ntmps86
  go_wp2_with (go_at_call 76; refine (HC.out _ HR.out).mono ?_; rintro e w1 ⟨rfl, hb1⟩)
  go_ret2
  exact ⟨rfl, below_on hW0 hb1⟩
def WorkOk (w : World) (v : MktV) (m : MktD) (e : Ending) (w' : World) : Prop := ∃ (B r : Nat) (s : Sl), e = .returned (.tuple #[.pointer (some ⟨B, 0, none⟩), .int .i64 0]) ∧ SaleWk w' B r v m s ∧ w.heap.size ≤ r ∧ Below w.heap.size w w'
set_option maxHeartbeats 8000000 in
set_option maxRecDepth 100000 in
theorem work_ok (v : MktV) (m : MktD) (w : World) (h : RdMkt w v m) (h0 : mktFault m = 0) :
    Calls Tryz.prog 86 #[.agg v.cs] w (WorkOk w v m) := by
  have hm := MOk.of h0
  have hl := hm.loft
  have hC := fun w (h : RdMkt w v m) => CheckMarket_any v m w h
  rw [h0] at hC
  have HC := Lib.hid hC
  clear hC h0
  have HLc : Hid (m.chests.length = v.chests.n) := h.chests.len
  have HLs : Hid (m.sales.length = v.sales.n) := h.sales.len
  have hc4 : v.chests.n ≤ 4 := by have := hm.c4; have := HLc.out; omega
  have hs4 : v.sales.n ≤ 4 := by have := hm.s4; have := HLs.out; omega
  obtain ⟨W0, hNW0, BX, hW0, hzW0⟩ := Box.named w v.cs 49
  have c0 := BX.cell 0 (.int .i64 v.loft.last) rfl
  have c1 := BX.cell 1 (.slice v.loft.air.a v.loft.air.n v.loft.air.c) rfl
  have c2 := BX.cell 2 (.slice v.loft.shelves.a v.loft.shelves.n v.loft.shelves.c) rfl
  have c3 := BX.cell 3 (.slice v.loft.cakes.a v.loft.cakes.n v.loft.cakes.c) rfl
  have c4 := BX.cell 4 (.slice v.loft.put.a v.loft.put.n v.loft.put.c) rfl
  have c5 := BX.cell 5 (.slice v.loft.weights.a v.loft.weights.n v.loft.weights.c) rfl
  have c6 := BX.cell 6 (.slice v.sales.a v.sales.n v.sales.c) rfl
  have c7 := BX.cell 7 (.slice v.chests.a v.chests.n v.chests.c) rfl
  have c8 := BX.cell 8 (.int .i64 v.step) rfl
  have c9 := BX.cell 9 (.int .i64 v.lots) rfl
  have c10 := BX.cell 10 (.slice v.notes.a v.notes.n v.notes.c) rfl
  have HR := Lib.hid (h.below hW0)
  have hmm := @run_makeMap Tryz.prog
  obtain ⟨ca, hca⟩ : ∃ ca, v.chests.a = ca := ⟨_, rfl⟩
  obtain ⟨sa, hsa⟩ : ∃ sa, v.sales.a = sa := ⟨_, rfl⟩
  have HCA := Lib.hid hca
  have HSA := Lib.hid hsa
  clear hca hsa
  obtain ⟨n, _⟩ : ∃ n : Nat, n = n := ⟨0, rfl⟩
  refine (callsIn_wide (n := n)).1 ?_
  refine callsIn_of_wp_marks Tryz.func86 rfl trivial ?_ rfl
  simp only [Tryz.ntmps86, List.size_toArray, List.length_cons, List.length_nil, Nat.reduceAdd, Nat.reduceSub, Array.replicate_succ, Array.replicate_zero, List.push_toArray, List.append_toArray, List.nil_append, List.cons_append]
  refine wpIn_wide.2 ?_
  go_wp2_with (go_at_call 76
               refine (HC.out _ HR.out).mono ?_
               rintro e w1 ⟨rfl, hb1⟩
               have d0 := (BX.lift hb1).cell 0 (.int .i64 v.loft.last) rfl; have d1 := (BX.lift hb1).cell 1 (.slice v.loft.air.a v.loft.air.n v.loft.air.c) rfl; have d2 := (BX.lift hb1).cell 2 (.slice v.loft.shelves.a v.loft.shelves.n v.loft.shelves.c) rfl; have d3 := (BX.lift hb1).cell 3 (.slice v.loft.cakes.a v.loft.cakes.n v.loft.cakes.c) rfl; have d4 := (BX.lift hb1).cell 4 (.slice v.loft.put.a v.loft.put.n v.loft.put.c) rfl; have d5 := (BX.lift hb1).cell 5 (.slice v.loft.weights.a v.loft.weights.n v.loft.weights.c) rfl; have d6 := (BX.lift hb1).cell 6 (.slice v.sales.a v.sales.n v.sales.c) rfl; have d7 := (BX.lift hb1).cell 7 (.slice v.chests.a v.chests.n v.chests.c) rfl; have d8 := (BX.lift hb1).cell 8 (.int .i64 v.step) rfl; have d9 := (BX.lift hb1).cell 9 (.int .i64 v.lots) rfl; have d10 := (BX.lift hb1).cell 10 (.slice v.notes.a v.notes.n v.notes.c) rfl
               obtain ⟨W3, hNW3, hbW3, hzW3, hmW3⟩ : ∃ W3, w1.alloc (.map #[] 0) = W3 ∧ Below w1.heap.size w1 W3 ∧ Hid (W3.heap.size = w1.heap.size + 1) ∧ W3.heap[w1.heap.size]? = some (.map #[] 0) := ⟨_, rfl, below_box _ _, World.size_alloc _ _, World.alloc_heap_new _ _⟩
               obtain ⟨W4, hNW4, BX4, hW4, hzW4⟩ := Box.named W3 (swCs v w1.heap.size (.slice none 0 0)) 145
               obtain ⟨W5, hNW5, BX5, hW5, hzW5⟩ := Box.named W4 #[.pointer (some ⟨W3.heap.size, 0, none⟩)] 138
               have f7 := ((((BX.lift hb1).lift hbW3).lift hW4).lift hW5).cell 7 (.slice v.chests.a v.chests.n v.chests.c) rfl
               rw [HCA.out] at f7)
  clear c0 c1 c2 c3 c4 c5 c6 c7 c8 c9 c10 d0 d1 d2 d3 d4 d5 d6 d7 d8 d9 d10 f7 hmm hNW0 hNW3 hNW4 hNW5
  have hw1 := below_on hW0 hb1
  have hw3 := below_on hw1 hbW3
  have hw4 := below_on hw3 hW4
  have hw5 := below_on hw4 hW5
  have z1 : w.heap.size < w1.heap.size := by have := hzW0.out; have := hb1.size; omega
  have z3 : w1.heap.size < W3.heap.size := by have := hzW3.out; omega
  have z4 : W3.heap.size < W4.heap.size := by have := hzW4.out; omega
  have z5 : W4.heap.size < W5.heap.size := by have := hzW5.out; omega
  have hm5 : W5.heap[w1.heap.size]? = some (.map #[] 0) := ((below_on hW4 hW5).block _ z3).trans hmW3
  have HM5 := Lib.hid hm5
  have HM5' : Hid (∀ wr, W5.grownBy wr (some w1.heap.size) → Kept W5 wr) := fun wr hg => Kept.of_map hm5 hg
  clear hm5 hmW3
  have bXm := ((((BX.lift hb1).lift hbW3).lift hW4).lift hW5)
  have bX4 := BX4.lift hW5
  go_loopg [28] v.chests.n (fun g i wr => ∃ q : Nat, q + g = v.chests.n ∧ i = .int .i64 q ∧ Hid (CanM wr w1.heap.size m (fun a b => a < q ∧ b < m.sales.length)) ∧ W5.grownBy wr (some w1.heap.size))
  case atStart => exact ⟨0, by omega, rfl, ⟨#[], 0, HM5.out, by simp, by simp⟩, grown_rfl _ _⟩
  case round =>
    obtain ⟨q, hqg, rfl, hcan, hg⟩ := hrel
    obtain ⟨g1, rfl⟩ : ∃ g1, g1 = gk := ⟨_, rfl⟩
    obtain ⟨wo, rfl⟩ : ∃ wo : World, wo = wr := ⟨_, rfl⟩
    have HK5 := Lib.hid (HM5'.out wo hg)
    have HRo := Lib.hid ((h.below hw5).kept HK5.out)
    by_cases hlt : q < v.chests.n
    · obtain ⟨c, hc⟩ := at_of_lt HLc.out hlt
      obtain ⟨b, o, t, ha0, hbl, hc0, hc1, hrd⟩ := HRo.out.chests.chest_at hc
      have ha := HCA.out.symm.trans ha0
      clear ha0
      subst ha
      obtain ⟨ta, tn, tc⟩ := t
      have htn : tn ≤ 281474976710656 := by have := hrd.small; simp at this; omega
      have HLT : Hid (c.cakes.length = tn) := hrd.len
      have HC1 := Lib.hid hc
      clear hc
      obtain ⟨W6, hNW6, BX6, hW6, hzW6⟩ := Box.named wo #[.slice ta tn tc, .int .i64 c.reserve] 150
      have e0 := BX6.cell 0 (.slice ta tn tc) rfl
      go_wp2
      clear hNW6 hc0 hc1 e0
      have hg6 := grown_on hg (hW6.mono hg.size)
      have hrd6 := hrd.below (encR_mono _) hW6
      have HR6 := Lib.hid (HRo.out.below hW6)
      have BM6 := (bXm.grown hg (fun e => by injection e; omega)).lift hW6
      have B56 := (BX5.grown hg (fun e => by injection e; omega)).lift hW6
      have B46 := (bX4.grown hg (fun e => by injection e; omega)).lift hW6
      have HCAN6 := Lib.hid (hcan.out.lift hW6)
      go_loopg [8, 36] tn (fun g2 d i wq => ∃ (j : Nat) (a : Int), j + g2 = tn ∧ i = .int .i64 j ∧ d = .int .i64 a ∧ Hid (a = dryOf m (c.cakes.take j)) ∧ -1 ≤ a ∧ a ≤ 12 ∧ Below W6.heap.size W6 wq)
      case atStart => exact ⟨0, -1, by omega, rfl, rfl, by simp [Hid, dryOf], by omega, by omega, Below.refl _ _⟩
      case round =>
        obtain ⟨j, a, hjg, rfl, rfl, hdry, ha1, ha2, hb6⟩ := hrel
        obtain ⟨g2, rfl⟩ : ∃ g2, g2 = gk := ⟨_, rfl⟩
        obtain ⟨wi, rfl⟩ : ∃ wi : World, wi = wr := ⟨_, rfl⟩
        by_cases hlt2 : j < tn
        · obtain ⟨x, hx⟩ := at_of_lt HLT.out hlt2
          obtain ⟨pb, po, hpa, hpbl, hpc⟩ := (hrd6.below (encR_mono _) hb6).int_at hx
          simp only at hpa
          subst hpa
          have HDR : Hid (dryOf m (c.cakes.take (j + 1)) = max a (dayM m.loft x)) := by
            show _ = _
            rw [dryOf, take_foldl _ _ hx, ← dryOf, ← hdry.out]
          have hdb := dayM_bd hl x
          have hDY := Day_any v.loft m.loft v.loft.put m.loft.put x wi (HR6.out.below hb6).loft (HR6.out.below hb6).loft.put
          have hdm : dayM m.loft x = if (dayS m.loft m.loft.put x).2 = 0 then (dayS m.loft m.loft.put x).1 else 9 := rfl
          obtain ⟨ee, hee⟩ : ∃ ee, (dayS m.loft m.loft.put x).2 = ee := ⟨_, rfl⟩
          obtain ⟨dd, hdd⟩ : ∃ dd, (dayS m.loft m.loft.put x).1 = dd := ⟨_, rfl⟩
          rw [hee, hdd] at hDY hdm
          have HDY := Lib.hid hDY
          clear hDY hee hdd hx
          have e0 := (BM6.lift hb6).cell 0 (.int .i64 v.loft.last) rfl; have e1 := (BM6.lift hb6).cell 1 (.slice v.loft.air.a v.loft.air.n v.loft.air.c) rfl; have e2 := (BM6.lift hb6).cell 2 (.slice v.loft.shelves.a v.loft.shelves.n v.loft.shelves.c) rfl; have e3 := (BM6.lift hb6).cell 3 (.slice v.loft.cakes.a v.loft.cakes.n v.loft.cakes.c) rfl; have e4 := (BM6.lift hb6).cell 4 (.slice v.loft.put.a v.loft.put.n v.loft.put.c) rfl; have e5 := (BM6.lift hb6).cell 5 (.slice v.loft.weights.a v.loft.weights.n v.loft.weights.c) rfl
          by_cases he : ee = 0
          · have hnb : (ee != 0) = false := by simp [he]
            rw [if_pos he] at hdm
            have HDM := Lib.hid hdm
            rw [hdm] at hdb
            have hmax : (if a < dd then dd else a) = max a dd := by omega
            clear hdm he
            go_wp2_with (go_at_call 52; refine HDY.out.mono ?_; rintro e w8 ⟨rfl, hb8⟩)
            all_goals
              go_roundg (g2 - 1)
              case measure => omega
              case rel => exact ⟨j + 1, max a dd, by omega, by go_num, by first | rfl | (congr 1; omega), by show _ = _; rw [HDR.out, HDM.out], by omega, by omega, below_on hb6 hb8⟩
          · have hnb : (ee != 0) = true := by simp [he]
            rw [if_neg he] at hdm
            have HDM := Lib.hid hdm
            have hmax : (if a < 9 then 9 else a) = max a 9 := by omega
            clear hdm he hdb
            go_wp2_with (go_at_call 52; refine HDY.out.mono ?_; rintro e w8 ⟨rfl, hb8⟩)
            all_goals
              go_roundg (g2 - 1)
              case measure => omega
              case rel => exact ⟨j + 1, max a 9, by omega, by go_num, by first | rfl | (congr 1; omega), by show _ = _; rw [HDR.out, HDM.out], by omega, by omega, below_on hb6 hb8⟩
        · obtain rfl : j = tn := by omega
          have HA : Hid (a = dryOf m c.cakes) := by have h1 := hdry.out; rwa [take_len HLT.out] at h1
          have hgi := grown_on hg6 (hb6.mono (by have := hg6.size; omega))
          have HRi := Lib.hid (HR6.out.below hb6)
          have BMi := BM6.lift hb6
          have B5i := B56.lift hb6
          have B4i := B46.lift hb6
          have HCANi := Lib.hid (HCAN6.out.lift hb6)
          have e6 := BMi.cell 6 (.slice v.sales.a v.sales.n v.sales.c) rfl
          rw [HSA.out] at e6
          clear hdry
          go_wp2
          clear e6
          go_loopg [59] v.sales.n (fun g3 i wq => ∃ k : Nat, k + g3 = v.sales.n ∧ i = .int .i64 k ∧ Hid (CanM wq w1.heap.size m (fun x y => (x < q ∧ y < m.sales.length) ∨ (x = q ∧ y < k))) ∧ wi.grownBy wq (some w1.heap.size))
          case atStart => exact ⟨0, by omega, rfl, HCANi.out.mono (fun x y => by simp), grown_rfl _ _⟩
          case round =>
            obtain ⟨k, hkg, rfl, hcan3, hg3⟩ := hrel
            obtain ⟨g3, rfl⟩ : ∃ g3, g3 = gk := ⟨_, rfl⟩
            obtain ⟨wq, rfl⟩ : ∃ wq : World, wq = wr := ⟨_, rfl⟩
            have hk3 := HCANi.out.kept hg3
            by_cases hlt3 : k < v.sales.n
            · obtain ⟨s, hs⟩ := at_of_lt HLs.out hlt3
              obtain ⟨sb, so, hsa0, hsbl, hs0, hs1, hs2⟩ := (HRi.out.kept hk3).sales.sale_at hs
              have hsa := HSA.out.symm.trans hsa0
              clear hsa0
              subst hsa
              obtain ⟨W7, hNW7, BX7, hW7, hzW7⟩ := Box.named wq #[.int .i64 s.day, .int .i64 s.price.lo, .int .i64 s.price.hi] 149
              have r0 := BX7.cell 0 (.int .i64 s.day) rfl
              have p5 := lift hW7 (hk3.cell _ _ _ (B5i.cell 0 (.pointer (some ⟨W3.heap.size, 0, none⟩)) rfl))
              have p4 := lift hW7 (hk3.cell _ _ _ (B4i.cell 11 (.map (some w1.heap.size)) rfl))
              have hst := (((hcan3.out.lift hW7).lift (below_drew W7)).store (i := q) (k := k) (by rintro (⟨a, b⟩ | ⟨a, b⟩) <;> omega))
              rw [canS_at HC1.out hs, ← HA.out] at hst
              obtain ⟨w8, hrun, hcan8, hg8⟩ := hst
              have HRUN := Lib.hid hrun
              clear hrun hs
              go_wp2
              clear hs0 hs1 hs2
              refine wp_calm ?_
              refine start_ (n := 12) (S := fun w' => w'.cell? ⟨W4.heap.size, 0, none⟩ = some (.pointer (some ⟨W3.heap.size, 0, none⟩)) ∧ w'.cell? ⟨W3.heap.size, 11, none⟩ = some (.map (some w1.heap.size)) ∧ w'.cell? ⟨wq.heap.size, 0, none⟩ = some (.int .i64 s.day)) (ds := [11]) #[false, false, false, false, false, false, false, false, false, false, false, false] (by kernel_rfl) rfl rfl ⟨p5, p4, r0⟩ (fun hHeld => ?_)
              obtain ⟨s0, s1, s2⟩ := hHeld
              refine pure_ (i := 4) (N := some 68) (v := ?_) (a' := ?_) #[false, false, false, false, true, false, false, false, false, false, false, false] rfl rfl (by kernel_rfl) (fun _ _ _ h => h) (Or.inl ⟨by rfl, ?_⟩) ?_ ?_
              rotate_left
              · intro w'
                go_simp
                with_reducible rfl
              rotate_left
              · simp only [Act.put, List.setIfInBounds_toArray, List.set_cons_zero, List.set_cons_succ, i64_w, i32_w]
                rfl
              refine pure_ (i := 5) (N := some 69) (v := ?_) (a' := ?_) #[false, false, false, false, true, true, false, false, false, false, false, false] rfl rfl (by kernel_rfl) (fun _ _ _ h => h) (Or.inl ⟨by rfl, ?_⟩) ?_ ?_
              rotate_left
              · intro w'
                go_simp
                with_reducible rfl
              rotate_left
              · simp only [Act.put, List.setIfInBounds_toArray, List.set_cons_zero, List.set_cons_succ, i64_w, i32_w]
                rfl
              refine pure_ (i := 6) (N := some 70) (v := ?_) (a' := ?_) #[false, false, false, false, true, true, true, false, false, false, false, false] rfl rfl (by kernel_rfl) (fun _ _ _ h => h) (Or.inl ⟨by rfl, ?_⟩) ?_ ?_
              rotate_left
              · intro w'
                go_simp
                with_reducible rfl
              rotate_left
              · simp only [Act.put, List.setIfInBounds_toArray, List.set_cons_zero, List.set_cons_succ, i64_w, i32_w]
                rfl
              refine pure_ (i := 7) (N := some 71) (v := ?_) (a' := ?_) #[false, false, false, false, true, true, true, true, false, false, false, false] rfl rfl (by kernel_rfl) (fun _ _ _ h => h) (Or.inl ⟨by rfl, ?_⟩) ?_ ?_
              rotate_left
              · intro w'
                go_simp
                with_reducible rfl
              rotate_left
              · simp only [Act.put, List.setIfInBounds_toArray, List.set_cons_zero, List.set_cons_succ, i64_w, i32_w]
                rfl
              refine pure_ (i := 8) (N := some 72) (v := ?_) (a' := ?_) #[false, false, false, false, true, true, true, true, true, false, false, false] rfl rfl (by kernel_rfl) (fun _ _ _ h => h) (Or.inl ⟨by rfl, ?_⟩) ?_ ?_
              rotate_left
              · intro w'
                go_simp
                with_reducible rfl
              rotate_left
              · simp only [Act.put, List.setIfInBounds_toArray, List.set_cons_zero, List.set_cons_succ, i64_w, i32_w]
                rfl
              refine take_ (i := 0) (N := some 64) (v := ?_) (a' := ?_) #[true, false, false, false, true, true, true, true, true, false, false, false] rfl rfl (by kernel_rfl) (fun _ _ _ h => h) (Or.inl ⟨by rfl, ?_⟩) ⟨s0, s1, s2⟩ ?_ ?_
              rotate_left
              · rintro w' ⟨zs0, zs1, zs2⟩
                go_simp
                with_reducible rfl
              rotate_left
              · simp only [Act.put, List.setIfInBounds_toArray, List.set_cons_zero, List.set_cons_succ, i64_w, i32_w]
                rfl
              refine pure_ (i := 1) (N := some 65) (v := ?_) (a' := ?_) #[true, true, false, false, true, true, true, true, true, false, false, false] rfl rfl (by kernel_rfl) (fun _ _ _ h => h) (Or.inl ⟨by rfl, ?_⟩) ?_ ?_
              rotate_left
              · intro w'
                go_simp
                with_reducible rfl
              rotate_left
              · simp only [Act.put, List.setIfInBounds_toArray, List.set_cons_zero, List.set_cons_succ, i64_w, i32_w]
                rfl
              refine pure_ (i := 2) (N := some 66) (v := ?_) (a' := ?_) #[true, true, true, false, true, true, true, true, true, false, false, false] rfl rfl (by kernel_rfl) (fun _ _ _ h => h) (Or.inl ⟨by rfl, ?_⟩) ?_ ?_
              rotate_left
              · intro w'
                go_simp
                with_reducible rfl
              rotate_left
              · simp only [Act.put, List.setIfInBounds_toArray, List.set_cons_zero, List.set_cons_succ, i64_w, i32_w]
                rfl
              refine take_ (i := 3) (N := some 67) (v := ?_) (a' := ?_) #[true, true, true, true, true, true, true, true, true, false, false, false] rfl rfl (by kernel_rfl) (fun _ _ _ h => h) (Or.inl ⟨by rfl, ?_⟩) ⟨s0, s1, s2⟩ ?_ ?_
              rotate_left
              · rintro w' ⟨zs0, zs1, zs2⟩
                go_simp
                with_reducible rfl
              rotate_left
              · simp only [Act.put, List.setIfInBounds_toArray, List.set_cons_zero, List.set_cons_succ, i64_w, i32_w]
                rfl
              refine take_ (i := 9) (N := some 73) (v := ?_) (a' := ?_) #[true, true, true, true, true, true, true, true, true, true, false, false] rfl rfl (by kernel_rfl) (fun _ _ _ h => h) (Or.inl ⟨by rfl, ?_⟩) ⟨s0, s1, s2⟩ ?_ ?_
              rotate_left
              · rintro w' ⟨zs0, zs1, zs2⟩
                go_simp
                with_reducible rfl
              rotate_left
              · simp only [Act.put, List.setIfInBounds_toArray, List.set_cons_zero, List.set_cons_succ, i64_w, i32_w]
                rfl
              refine pure_ (i := 10) (N := some 74) (v := ?_) (a' := ?_) #[true, true, true, true, true, true, true, true, true, true, true, false] rfl rfl (by kernel_rfl) (fun _ _ _ h => h) (Or.inl ⟨by rfl, ?_⟩) ?_ ?_
              rotate_left
              · intro w'
                go_simp
                with_reducible rfl
              rotate_left
              · simp only [Act.put, List.setIfInBounds_toArray, List.set_cons_zero, List.set_cons_succ, i64_w, i32_w]
                rfl
              refine last_ (i := 11) (N := none) #[true, true, true, true, true, true, true, true, true, true, true, true] rfl rfl (by kernel_rfl) (by decide) (fun K hK => ?_)
              refine skip_ (w1 := w8) (by rfl) rfl ?_ ?_
              · have hrun := HRUN.out
                unfold execOp
                go_simp
              refine hK.out _ _ ?_
              clear hK K
              clear s0 s1 s2
              refine done_ (by kernel_rfl) ?_
              refine calm_ ?_
              go_wp2
              go_roundg (g3 - 1)
              case measure => omega
              case rel => exact ⟨k + 1, by omega, by go_num, hcan8.mono (fun x y => by
                constructor
                · rintro ((h | h) | h)
                  · exact Or.inl h
                  · exact Or.inr ⟨h.1, by omega⟩
                  · exact Or.inr ⟨h.1, by omega⟩
                · rintro (h | h)
                  · exact Or.inl (Or.inl h)
                  · by_cases e : y = k
                    · exact Or.inr ⟨h.1, e⟩
                    · exact Or.inl (Or.inr ⟨h.1, by omega⟩)), grown_trans (grown_on (grown_on hg3 (hW7.mono hg3.size)) ((below_drew W7).mono (by have := hg3.size; have := hW7.size; omega))) hg8⟩
            · obtain rfl : k = v.sales.n := by omega
              go_wp2
              go_roundg (g1 - 1)
              case measure => omega
              case rel => exact ⟨q + 1, by omega, by go_num, hcan3.out.mono (fun x y => by
                have := HLs.out
                constructor
                · rintro (h | h)
                  · exact ⟨by omega, h.2⟩
                  · exact ⟨by omega, by omega⟩
                · intro h
                  by_cases e : x = q
                  · exact Or.inr ⟨e, by omega⟩
                  · exact Or.inl ⟨by omega, h.2⟩), grown_trans hgi hg3⟩
    · obtain rfl : q = v.chests.n := by omega
      have hgo := hg.size
      have hrb : w1.heap.size < wo.heap.size := hcan.out.lt
      have BMo := bXm.grown hg (fun e => by injection e; omega)
      have B5o := BX5.grown hg (fun e => by injection e; omega)
      have B4o := bX4.grown hg (fun e => by injection e; omega)
      have hwo : Below w.heap.size w wo := hw5.grown hg hw5.size (fun k e => by cases e; omega)
      have e0 := BMo.cell 0 (.int .i64 v.loft.last) rfl; have e1 := BMo.cell 1 (.slice v.loft.air.a v.loft.air.n v.loft.air.c) rfl; have e2 := BMo.cell 2 (.slice v.loft.shelves.a v.loft.shelves.n v.loft.shelves.c) rfl; have e3 := BMo.cell 3 (.slice v.loft.cakes.a v.loft.cakes.n v.loft.cakes.c) rfl; have e4 := BMo.cell 4 (.slice v.loft.put.a v.loft.put.n v.loft.put.c) rfl; have e5 := BMo.cell 5 (.slice v.loft.weights.a v.loft.weights.n v.loft.weights.c) rfl; have e6 := BMo.cell 6 (.slice v.sales.a v.sales.n v.sales.c) rfl; have e7 := BMo.cell 7 (.slice v.chests.a v.chests.n v.chests.c) rfl; have e8 := BMo.cell 8 (.int .i64 v.step) rfl; have e9 := BMo.cell 9 (.int .i64 v.lots) rfl; have e10 := BMo.cell 10 (.slice v.notes.a v.notes.n v.notes.c) rfl
      go_wp2_with (go_at_call 138; refine (allM_any v _).mono ?_; rintro e w6 ⟨rfl, rfl⟩; obtain ⟨W6, hNW6, BX6, hW6, hzW6⟩ := Box.named wo v.cs 49)
      clear e0 e1 e2 e3 e4 e5 e6 e7 e8 e9 e10
      have hw6 := below_on hwo hW6
      have z6 : wo.heap.size < W6.heap.size := by have := hzW6.out; omega
      have BM6 := BMo.lift hW6
      have B56 := B5o.lift hW6
      have B46 := B4o.lift hW6
      have HCAN6 := Lib.hid (hcan.out.lift hW6)
      refine (wpIn_wide (n := n)).1 ?_
      refine wpIn_iter (gf := 165) (lb := #[.pointer (some ⟨wo.heap.size, 0, none⟩)]) (enc := fun x => .agg (arrP x)) (all := enumP m.step none m.prs) rfl (enters_of Tryz.func165 (by kernel_rfl) rfl) (prices_iter v m hm wo.heap.size W6) rfl
        (SaleI v m w1.heap.size W3.heap.size W6) (fun _ => False) (SaleI.abides (by omega))
        (fun hi pre W' ⟨vv, _, _, hgg⟩ => ⟨BX6.grown hgg (fun e => by injection e; omega), h.below (hw6.grown hgg hw6.size (fun k e => by cases e; omega))⟩) (fun _ _ _ hx _ _ => hx)
        (fun hi W' _ _ hb => ⟨_, B46.lift hb, World.ownsRow_nil _ _ _ _, grown_below hb _⟩) ?round ?done ?stop
      case stop => exact fun _ hx => hx.elim
      case round =>
        rintro lp hi mm pre x W h1 h2 hI hpre
        have hxall : x ∈ enumP m.step none m.prs := hpre.subset (by simp)
        have hplen : pre.length < 2000 := by
          have := hpre.length_le
          have := enumP_le hm
          simp at *
          omega
        obtain ⟨f, hf⟩ : ∃ f, (fun j => x.getD j 0) = f := ⟨_, rfl⟩
        have HF := Lib.hid hf
        simp only [arrP, hf]
        clear hf
        obtain ⟨W7, hNW7, BX7, hW7, hzW7⟩ := Box.named W (prC f) 167
        obtain ⟨vv, BV0, hown0, _⟩ := hI
        gi_wp2
        refine ⟨hW7, fun W8 hg8 ⟨_, _, _, hg2⟩ => ?_⟩
        have s7 := hW7.size
        have s8 := hg8.size
        have BX8 := BX7.grown hg8 (fun e => by injection e; omega)
        have BV := (BV0.lift hW7).grown hg8 (fun e => by injection e; omega)
        have hown := (own_below hown0 hW7).kept hg8 (by
          cases ho : vv.ownBlock with
          | none => exact Or.inl rfl
          | some b => exact Or.inr (fun e => by have := hown0.lt b ho; injection e; omega))
        have hlt0 : ∀ b, vv.ownBlock = some b → hi ≤ b ∧ b < W.heap.size := hown0.lt
        have HLT0 := Lib.hid hlt0
        have HOWN := Lib.hid hown
        clear hown hown0 hlt0 BV0
        have hbW : Below w.heap.size w W8 := hw6.grown hg2 hw6.size (fun k e => by cases e; omega)
        have BXL := BM6.grown hg2 (fun e => by injection e; omega)
        have a0 := BXL.cell 0 (.int .i64 v.loft.last) rfl; have a1 := BXL.cell 1 (.slice v.loft.air.a v.loft.air.n v.loft.air.c) rfl; have a2 := BXL.cell 2 (.slice v.loft.shelves.a v.loft.shelves.n v.loft.shelves.c) rfl; have a3 := BXL.cell 3 (.slice v.loft.cakes.a v.loft.cakes.n v.loft.cakes.c) rfl; have a4 := BXL.cell 4 (.slice v.loft.put.a v.loft.put.n v.loft.put.c) rfl; have a5 := BXL.cell 5 (.slice v.loft.weights.a v.loft.weights.n v.loft.weights.c) rfl; have a6 := BXL.cell 6 (.slice v.sales.a v.sales.n v.sales.c) rfl; have a7 := BXL.cell 7 (.slice v.chests.a v.chests.n v.chests.c) rfl; have a8 := BXL.cell 8 (.int .i64 v.step) rfl; have a9 := BXL.cell 9 (.int .i64 v.lots) rfl; have a10 := BXL.cell 10 (.slice v.notes.a v.notes.n v.notes.c) rfl
        have p7 := (B56.grown hg2 (fun e => by injection e; omega)).cell 0 (.pointer (some ⟨W3.heap.size, 0, none⟩)) rfl
        have n0 := BX8.cell 0 (.int .i64 (f 0)) rfl
        have n1 := BX8.cell 1 (.int .i64 (f 1)) rfl
        have n2 := BX8.cell 2 (.int .i64 (f 2)) rfl
        have n3 := BX8.cell 3 (.int .i64 (f 3)) rfl
        have hRt : ∀ y : After W8, Calls Tryz.prog 126 #[.agg v.cs, .agg (prC f), .slice none 0 0] (At y) fun e w' => e = .returned (.bool (okP m x)) ∧ Below (At y).heap.size (At y) w' := fun y => by
          have := rightM_any v m (fun j => x.getD j 0) ⟨none, 0, 0⟩ [] (At y) ((h.below hbW).below (At.below y)) (rd_nil _ _ _ _ _) (fun n hn => by have := hm.notes n hn; have := hm.s4; omega)
          rw [rightF_nil hm, HF.out] at this
          exact this
        have HDN : Hid (dnP m (pre ++ [x]) = dnP m pre ++ if okP m x then [x] else []) := dnP_snoc m pre x
        obtain ⟨tk, htk⟩ : ∃ tk, okP m x = tk := ⟨_, rfl⟩
        rw [htk] at hRt HDN
        have HRT := Lib.hid hRt
        clear hRt htk
        gi_wp2
        cases tk
        · have zz0 := fun x : After W8 => At.cell a0 x
          have zz1 := fun x : After W8 => At.cell a1 x
          have zz2 := fun x : After W8 => At.cell a2 x
          have zz3 := fun x : After W8 => At.cell a3 x
          have zz4 := fun x : After W8 => At.cell a4 x
          have zz5 := fun x : After W8 => At.cell a5 x
          have zz6 := fun x : After W8 => At.cell a6 x
          have zz7 := fun x : After W8 => At.cell a7 x
          have zz8 := fun x : After W8 => At.cell a8 x
          have zz9 := fun x : After W8 => At.cell a9 x
          have zz10 := fun x : After W8 => At.cell a10 x
          have zz11 := fun x : After W8 => At.cell n0 x
          have zz12 := fun x : After W8 => At.cell n1 x
          have zz13 := fun x : After W8 => At.cell n2 x
          have zz14 := fun x : After W8 => At.cell n3 x
          refine round_after ?_ (by kernel_rfl) (by kernel_rfl) (by kernel_rfl) ?_
          · rintro ⟨_, _, hq⟩; exact hq
          repeat (go_big_quiet_step ((go_at_call 126; exact after_call (HRT.out _))))
          refine wpQuiet_nil ?_
          intro W9 hbW9
          clear zz0 zz1 zz2 zz3 zz4 zz5 zz6 zz7 zz8 zz9 zz10 zz11 zz12 zz13 zz14
          gi_wp2
          exact ⟨KeepR.below hbW9 (by omega), vv, BV.lift hbW9, by rw [HDN.out]; simpa using own_below HOWN.out hbW9, grown_on hg2 (hbW9.mono (by omega))⟩
        · have hlen : (dnP m pre).length ≤ 2000 := Nat.le_trans (dnP_len _ _) (by omega)
          obtain ⟨ra, rc, rfl, hrd, hrab⟩ := own_rd (f := prCs) (fun _ => rfl) (by omega) HOWN.out
          have hex : ∀ t ∈ dnP m pre, t ∈ pre := fun t ht => (List.mem_filter.1 ht).1
          have HEX := Lib.hid hex
          clear hex
          have HDX : Hid ((dnP m (pre ++ [x])).length = (dnP m pre).length + 1 ∧ (dnP m (pre ++ [x])).flatMap prCs = (dnP m pre).flatMap prCs ++ (prC f).toList) := by
            rw [HDN.out]
            refine ⟨by simp, ?_⟩
            rw [List.flatMap_append]
            simp only [if_true, List.flatMap_cons, List.flatMap_nil, List.append_nil]
            rw [prCs, arrP, HF.out]
          obtain ⟨T, hT⟩ : ∃ T, dnP m pre = T := ⟨_, rfl⟩
          rw [hT] at BV hrd hlen HOWN HDX HEX HLT0
          clear hT HDN
          obtain ⟨N, hN⟩ : ∃ N, T.length = N := ⟨_, rfl⟩
          rw [hN] at BV hrd hlen HOWN HDX HLT0
          have HN := Lib.hid hN
          clear hN
          have b6 := BV.cell 12 (.slice ra N rc) rfl
          have HRD := Lib.hid hrd
          clear hrd
          have av4 : (Value.slice ra N rc).ownBlock ≠ some W4.heap.size := fun e => by have := HLT0.out _ e; omega
          have av3 : (Value.slice ra N rc).ownBlock ≠ some W3.heap.size := fun e => by have := HLT0.out _ e; omega
          have avx : (Value.slice ra N rc).ownBlock ≠ some W.heap.size := fun e => by have := HLT0.out _ e; omega
          obtain ⟨i0, hi0, hz0, hz1, hz2⟩ := info_parts info167
          have HI := Lib.hid hi0
          have HZ0 := Lib.hid hz0
          have HZ1 := Lib.hid hz1
          have HZ2 := Lib.hid hz2
          clear hi0 hz0 hz1 hz2
          have hml : N + 1 ≤ maxLen := by unfold maxLen; omega
          by_cases hn : N = 0
          · have hnb : ((N : Int) == 0) = true := by simp [hn]
            have HN0 := Lib.hid hn
            clear hn
            have zz0 := fun x : After W8 => At.cell a0 x
            have zz1 := fun x : After W8 => At.cell a1 x
            have zz2 := fun x : After W8 => At.cell a2 x
            have zz3 := fun x : After W8 => At.cell a3 x
            have zz4 := fun x : After W8 => At.cell a4 x
            have zz5 := fun x : After W8 => At.cell a5 x
            have zz6 := fun x : After W8 => At.cell a6 x
            have zz7 := fun x : After W8 => At.cell a7 x
            have zz8 := fun x : After W8 => At.cell a8 x
            have zz9 := fun x : After W8 => At.cell a9 x
            have zz10 := fun x : After W8 => At.cell a10 x
            have zz11 := fun x : After W8 => At.cell n0 x
            have zz12 := fun x : After W8 => At.cell n1 x
            have zz13 := fun x : After W8 => At.cell n2 x
            have zz14 := fun x : After W8 => At.cell n3 x
            have zz15 := fun x : After W8 => At.cell p7 x
            have zz16 := fun x : After W8 => At.cell b6 x
            refine round_after ?_ (by kernel_rfl) (by kernel_rfl) (by kernel_rfl) ?_
            · rintro ⟨_, _, hq⟩; exact hq
            repeat (go_big_quiet_step ((go_at_call 126; exact after_call (HRT.out _))))
            refine wpQuiet_nil ?_
            intro W9 hbW9
            clear zz0 zz1 zz2 zz3 zz4 zz5 zz6 zz7 zz8 zz9 zz10 zz11 zz12 zz13 zz14 zz15 zz16
            have hown9 := own_below HOWN.out hbW9
            have HOWN9 := Lib.hid hown9
            clear hown9
            have q7 := lift hbW9 p7
            have q6 := lift hbW9 b6
            have m0 := lift hbW9 n0
            have m1 := lift hbW9 n1
            have m2 := lift hbW9 n2
            have m3 := lift hbW9 n3
            have s9 := hbW9.size
            gi_wp2
            refine round_start (k := 11) (S := fun w' => w'.cell? ⟨W4.heap.size, 0, none⟩ = some (.pointer (some ⟨W3.heap.size, 0, none⟩)) ∧ w'.cell? ⟨W3.heap.size, 12, none⟩ = some (.slice ra N rc) ∧ w'.cell? ⟨W.heap.size, 0, none⟩ = some (.int .i64 (f 0)) ∧ w'.cell? ⟨W.heap.size, 1, none⟩ = some (.int .i64 (f 1)) ∧ w'.cell? ⟨W.heap.size, 2, none⟩ = some (.int .i64 (f 2)) ∧ w'.cell? ⟨W.heap.size, 3, none⟩ = some (.int .i64 (f 3))) (ds := [10]) #[false, false, false, false, false, false, false, false, false, false, false] ?_ (by kernel_rfl) (by kernel_rfl) rfl rfl ⟨q7, q6, m0, m1, m2, m3⟩ (fun hHeld => ?_)
            · rintro ⟨_, _, hq⟩; exact hq
            obtain ⟨s0, s1, s2, s3, s4, s5⟩ := hHeld
            refine take_ (i := 0) (N := some 107) (v := ?_) (a' := ?_) #[true, false, false, false, false, false, false, false, false, false, false] rfl rfl (by kernel_rfl) (fun _ _ _ h => h) (Or.inl ⟨by rfl, ?_⟩) ⟨s0, s1, s2, s3, s4, s5⟩ ?_ ?_
            rotate_left
            · rintro w' ⟨zs0, zs1, zs2, zs3, zs4, zs5⟩
              go_simp
              with_reducible rfl
            rotate_left
            · simp only [Act.put, List.setIfInBounds_toArray, List.set_cons_zero, List.set_cons_succ, i64_w, i32_w]
              rfl
            refine take_ (i := 1) (N := some 108) (v := ?_) (a' := ?_) #[true, true, false, false, false, false, false, false, false, false, false] rfl rfl (by kernel_rfl) (fun _ _ _ h => h) (Or.inl ⟨by rfl, ?_⟩) ⟨s0, s1, s2, s3, s4, s5⟩ ?_ ?_
            rotate_left
            · rintro w' ⟨zs0, zs1, zs2, zs3, zs4, zs5⟩
              go_simp
              with_reducible rfl
            rotate_left
            · simp only [Act.put, List.setIfInBounds_toArray, List.set_cons_zero, List.set_cons_succ, i64_w, i32_w]
              rfl
            refine pure_ (i := 2) (N := some 109) (v := ?_) (a' := ?_) #[true, true, true, false, false, false, false, false, false, false, false] rfl rfl (by kernel_rfl) (fun _ _ _ h => h) (Or.inl ⟨by rfl, ?_⟩) ?_ ?_
            rotate_left
            · intro w'
              go_simp
              with_reducible rfl
            rotate_left
            · simp only [Act.put, List.setIfInBounds_toArray, List.set_cons_zero, List.set_cons_succ, i64_w, i32_w]
              rfl
            refine pure_ (i := 3) (N := some 110) (v := ?_) (a' := ?_) #[true, true, true, true, false, false, false, false, false, false, false] rfl rfl (by kernel_rfl) (fun _ _ _ h => h) (Or.inl ⟨by rfl, ?_⟩) ?_ ?_
            rotate_left
            · intro w'
              go_simp
              with_reducible rfl
            rotate_left
            · simp only [Act.put, List.setIfInBounds_toArray, List.set_cons_zero, List.set_cons_succ, i64_w, i32_w]
              rfl
            refine take_ (i := 4) (N := some 111) (v := ?_) (a' := ?_) #[true, true, true, true, true, false, false, false, false, false, false] rfl rfl (by kernel_rfl) (fun _ _ _ h => h) (Or.inl ⟨by rfl, ?_⟩) ⟨s0, s1, s2, s3, s4, s5⟩ ?_ ?_
            rotate_left
            · rintro w' ⟨zs0, zs1, zs2, zs3, zs4, zs5⟩
              go_simp
              with_reducible rfl
            rotate_left
            · simp only [Act.put, List.setIfInBounds_toArray, List.set_cons_zero, List.set_cons_succ, i64_w, i32_w]
              rfl
            refine take_ (i := 5) (N := some 112) (v := ?_) (a' := ?_) #[true, true, true, true, true, true, false, false, false, false, false] rfl rfl (by kernel_rfl) (fun _ _ _ h => h) (Or.inl ⟨by rfl, ?_⟩) ⟨s0, s1, s2, s3, s4, s5⟩ ?_ ?_
            rotate_left
            · rintro w' ⟨zs0, zs1, zs2, zs3, zs4, zs5⟩
              go_simp
              with_reducible rfl
            rotate_left
            · simp only [Act.put, List.setIfInBounds_toArray, List.set_cons_zero, List.set_cons_succ, i64_w, i32_w]
              rfl
            refine one_ (i := 6) (N := some 113) #[true, true, true, true, true, true, true, false, false, false, false] rfl rfl (by kernel_rfl) (by decide) (fun K hK => ?_)
            refine value_ (w1 := ?_) (v := ?_) (by rfl) rfl ?_ ?_
            rotate_left 2
            · go_simp
              constructor
              · rfl
              · rfl
            refine hK.out _ _ ⟨lift (below_box _ _) s0, lift (below_box _ _) s1, lift (below_box _ _) s2, lift (below_box _ _) s3, lift (below_box _ _) s4, lift (below_box _ _) s5⟩ (fun hHeld => ?_)
            clear hK K s0 s1 s2 s3 s4 s5
            obtain ⟨s0, s1, s2, s3, s4, s5⟩ := hHeld
            refine norm_ (a' := ?_) ?_ ?_
            rotate_left
            · show Act.put _ (some 113) _ = _
              simp only [Act.put, List.setIfInBounds_toArray, List.set_cons_zero, List.set_cons_succ, i64_w, i32_w]
              rfl
            refine one_ (i := 7) (N := some 114) #[true, true, true, true, true, true, true, true, false, false, false] rfl rfl (by kernel_rfl) (by decide) (fun K hK => ?_)
            refine step_append_lies _ (by rfl) _ _ _ (by rfl) hi 167 i0 _ 4 32 Tryz.underlying143 HI.out HZ0.out HZ1.out HZ2.out rfl (by omega) (.slice ra N rc) N (T.flatMap prCs) (by rfl) ((own_below HOWN9.out (below_drew _)).alloc _) ⟨W9.heap.size, 0, none⟩ 1 1 (prC f).toList (by rfl) (by rfl) (World.news_of_block (cs := prC f) (t := 167) (fr := (0, 0)) (heap_alloc_new W9.drew _)) (by simp [Value.oneCell']) (by omega) hml (by omega) (by simp; omega) (W9.heap.size + 1) (by simp) ?_
            intro gg cap wA hownA hgrow hat hlt
            have BT := (((BV.lift hbW9).lift (below_drew _)).lift (below_box _ _)).grown hgrow av3
            refine hK.out _ _ ⟨lift_grown hgrow s0 av4, lift_grown hgrow s1 av3, lift_grown hgrow s2 avx, lift_grown hgrow s3 avx, lift_grown hgrow s4 avx, lift_grown hgrow s5 avx⟩ (fun hHeld => ?_)
            clear hK K s0 s1 s2 s3 s4 s5
            obtain ⟨s0, s1, s2, s3, s4, s5⟩ := hHeld
            refine norm_ (a' := ?_) ?_ ?_
            rotate_left
            · show Act.put _ (some 114) _ = _
              simp only [Act.put, List.setIfInBounds_toArray, List.set_cons_zero, List.set_cons_succ, i64_w, i32_w]
              rfl
            refine pure_ (i := 8) (N := some 115) (v := ?_) (a' := ?_) #[true, true, true, true, true, true, true, true, true, false, false] rfl rfl (by kernel_rfl) (fun _ _ _ h => h) (Or.inl ⟨by rfl, ?_⟩) ?_ ?_
            rotate_left
            · intro w'
              go_simp
              with_reducible rfl
            rotate_left
            · simp only [Act.put, List.setIfInBounds_toArray, List.set_cons_zero, List.set_cons_succ, i64_w, i32_w]
              rfl
            refine pure_ (i := 9) (N := some 116) (v := ?_) (a' := ?_) #[true, true, true, true, true, true, true, true, true, true, false] rfl rfl (by kernel_rfl) (fun _ _ _ h => h) (Or.inl ⟨by rfl, ?_⟩) ?_ ?_
            rotate_left
            · intro w'
              go_simp
              with_reducible rfl
            rotate_left
            · simp only [Act.put, List.setIfInBounds_toArray, List.set_cons_zero, List.set_cons_succ, i64_w, i32_w]
              rfl
            refine last_ (i := 10) (N := none) #[true, true, true, true, true, true, true, true, true, true, true] rfl rfl (by kernel_rfl) (by decide) (fun K hK => ?_)
            have hst := BT.cell 12 (.slice ra N rc) rfl
            have hsf := BT.free 12
            refine skip_ (w1 := ?_) (by rfl) rfl ?_ ?_
            rotate_left
            · go_simp
              rfl
            refine hK.out _ _ ?_
            clear hK K
            clear s0 s1 s2 s3 s4 s5
            refine done_ (by kernel_rfl) ?_
            gi_wp2
            have hgl := hownA.lt gg rfl
            have hgs := hgrow.size
            simp only [World.size_alloc, World.size_drew] at hgs
            refine ⟨(((KeepR.below hbW9 (by omega)).trans (KeepR.below (below_drew _) (by omega))).trans (KeepR.below (below_box _ _) (by simp; omega))).trans ((KeepR.grown hgrow (by simp; omega) (fun r e => by have := HLT0.out r e; omega)).trans (KeepR.grown (grown_set (grown_rfl _ _) (b := W3.heap.size) (k := 12) (.slice (some ⟨gg, 0, none⟩) (N + 1) cap)) (by omega) (fun r e => by cases e; omega))), _, BT.set 12 _, ?_, grown_set (grown_far (grown_on (grown_on (grown_on hg2 (hbW9.mono (by omega))) ((below_drew _).mono (by omega))) ((below_box _ _).mono (by simp; omega))) hgrow (fun r e => by have := HLT0.out r e; omega)) _⟩
            rw [HDX.out.1, HDX.out.2]
            exact own_far hownA (fun e => by have := hownA.lt _ e; omega) _
          · obtain ⟨q, rfl⟩ : ∃ q, N = q + 1 := ⟨N - 1, by omega⟩
            clear hn
            obtain ⟨t, ht⟩ := at_of_lt HN.out (show q < q + 1 by omega)
            obtain ⟨b, o, cs, ha, hbl, hll, hcs, hcc⟩ := HRD.out.cells q t ht
            cases hcs
            simp only at ha
            subst ha
            have hy := HEX.out t (List.mem_of_getElem? ht)
            have hneq : ∀ w, (binOp .neq 167 (.agg (prC (fun j => t.getD j 0))) (.agg (prC f))).run Tryz.prog w = .ok (.bool true) w := fun w => by
              rw [pr_neq]
              have : ¬ (List.range 4).map (fun j => t.getD j 0) = (List.range 4).map f := fun e => by
                rw [← HF.out] at e
                have hyall : t ∈ enumP m.step none m.prs := hpre.subset (by simp [hy])
                have e1 := (mem_enumP.1 hyall).1.len
                have e2 := (mem_enumP.1 hxall).1.len
                have e3 : m.prs.length ≤ 4 := by have := hm.s4; simp only [MktD.prs, List.length_map]; omega
                have e4 := arr_inj (n := 4) (by omega) (by omega) e
                have hnd : (pre ++ [x]).Nodup := (enumP_nodup m.step none m.prs).sublist hpre.sublist
                rw [List.nodup_append] at hnd
                exact hnd.2.2 t hy x (by simp) e4
              rw [decide_eq_false this]; rfl
            clear ht hll hy
            obtain ⟨gf, hgf⟩ : ∃ gf, (fun j => t.getD j 0) = gf := ⟨_, rfl⟩
            have HGF := Lib.hid hgf
            rw [hgf] at hneq
            clear hgf
            have k0 : W8.cell? ⟨b, o + q * 4, none⟩ = some (.int .i64 (gf 0)) := hcc 0 (.int .i64 (gf 0)) (by rw [← HGF.out]; rfl)
            have k1 := hcc 1 (.int .i64 (gf 1)) (by rw [← HGF.out]; rfl)
            have k2 := hcc 2 (.int .i64 (gf 2)) (by rw [← HGF.out]; rfl)
            have k3 := hcc 3 (.int .i64 (gf 3)) (by rw [← HGF.out]; rfl)
            clear hcc
            have hq1 : ((q : Int) + 1 == 0) = false := by simp; omega
            have hq2 : (0 : Int) ≤ (q : Int) := by omega
            have hq3 : (q : Int) < (q : Int) + 1 := by omega
            have zz0 := fun x : After W8 => At.cell a0 x
            have zz1 := fun x : After W8 => At.cell a1 x
            have zz2 := fun x : After W8 => At.cell a2 x
            have zz3 := fun x : After W8 => At.cell a3 x
            have zz4 := fun x : After W8 => At.cell a4 x
            have zz5 := fun x : After W8 => At.cell a5 x
            have zz6 := fun x : After W8 => At.cell a6 x
            have zz7 := fun x : After W8 => At.cell a7 x
            have zz8 := fun x : After W8 => At.cell a8 x
            have zz9 := fun x : After W8 => At.cell a9 x
            have zz10 := fun x : After W8 => At.cell a10 x
            have zz11 := fun x : After W8 => At.cell n0 x
            have zz12 := fun x : After W8 => At.cell n1 x
            have zz13 := fun x : After W8 => At.cell n2 x
            have zz14 := fun x : After W8 => At.cell n3 x
            have zz15 := fun x : After W8 => At.cell p7 x
            have zz16 := fun x : After W8 => At.cell b6 x
            have zz17 := fun x : After W8 => At.cell k0 x
            have zz18 := fun x : After W8 => At.cell k1 x
            have zz19 := fun x : After W8 => At.cell k2 x
            have zz20 := fun x : After W8 => At.cell k3 x
            refine round_after ?_ (by kernel_rfl) (by kernel_rfl) (by kernel_rfl) ?_
            · rintro ⟨_, _, hq⟩; exact hq
            repeat (go_big_quiet_step ((go_at_call 126; exact after_call (HRT.out _))))
            refine wpQuiet_nil ?_
            intro W9 hbW9
            clear zz0 zz1 zz2 zz3 zz4 zz5 zz6 zz7 zz8 zz9 zz10 zz11 zz12 zz13 zz14 zz15 zz16 zz17 zz18 zz19 zz20
            have hown9 := own_below HOWN.out hbW9
            have HOWN9 := Lib.hid hown9
            clear hown9
            have q7 := lift hbW9 p7
            have q6 := lift hbW9 b6
            have m0 := lift hbW9 n0
            have m1 := lift hbW9 n1
            have m2 := lift hbW9 n2
            have m3 := lift hbW9 n3
            have s9 := hbW9.size
            gi_wp2
            refine round_start (k := 11) (S := fun w' => w'.cell? ⟨W4.heap.size, 0, none⟩ = some (.pointer (some ⟨W3.heap.size, 0, none⟩)) ∧ w'.cell? ⟨W3.heap.size, 12, none⟩ = some (.slice (some ⟨b, o, none⟩) (q + 1) rc) ∧ w'.cell? ⟨W.heap.size, 0, none⟩ = some (.int .i64 (f 0)) ∧ w'.cell? ⟨W.heap.size, 1, none⟩ = some (.int .i64 (f 1)) ∧ w'.cell? ⟨W.heap.size, 2, none⟩ = some (.int .i64 (f 2)) ∧ w'.cell? ⟨W.heap.size, 3, none⟩ = some (.int .i64 (f 3))) (ds := [10]) #[false, false, false, false, false, false, false, false, false, false, false] ?_ (by kernel_rfl) (by kernel_rfl) rfl rfl ⟨q7, q6, m0, m1, m2, m3⟩ (fun hHeld => ?_)
            · rintro ⟨_, _, hq⟩; exact hq
            obtain ⟨s0, s1, s2, s3, s4, s5⟩ := hHeld
            refine take_ (i := 0) (N := some 107) (v := ?_) (a' := ?_) #[true, false, false, false, false, false, false, false, false, false, false] rfl rfl (by kernel_rfl) (fun _ _ _ h => h) (Or.inl ⟨by rfl, ?_⟩) ⟨s0, s1, s2, s3, s4, s5⟩ ?_ ?_
            rotate_left
            · rintro w' ⟨zs0, zs1, zs2, zs3, zs4, zs5⟩
              go_simp
              with_reducible rfl
            rotate_left
            · simp only [Act.put, List.setIfInBounds_toArray, List.set_cons_zero, List.set_cons_succ, i64_w, i32_w]
              rfl
            refine take_ (i := 1) (N := some 108) (v := ?_) (a' := ?_) #[true, true, false, false, false, false, false, false, false, false, false] rfl rfl (by kernel_rfl) (fun _ _ _ h => h) (Or.inl ⟨by rfl, ?_⟩) ⟨s0, s1, s2, s3, s4, s5⟩ ?_ ?_
            rotate_left
            · rintro w' ⟨zs0, zs1, zs2, zs3, zs4, zs5⟩
              go_simp
              with_reducible rfl
            rotate_left
            · simp only [Act.put, List.setIfInBounds_toArray, List.set_cons_zero, List.set_cons_succ, i64_w, i32_w]
              rfl
            refine pure_ (i := 2) (N := some 109) (v := ?_) (a' := ?_) #[true, true, true, false, false, false, false, false, false, false, false] rfl rfl (by kernel_rfl) (fun _ _ _ h => h) (Or.inl ⟨by rfl, ?_⟩) ?_ ?_
            rotate_left
            · intro w'
              go_simp
              with_reducible rfl
            rotate_left
            · simp only [Act.put, List.setIfInBounds_toArray, List.set_cons_zero, List.set_cons_succ, i64_w, i32_w]
              rfl
            refine pure_ (i := 3) (N := some 110) (v := ?_) (a' := ?_) #[true, true, true, true, false, false, false, false, false, false, false] rfl rfl (by kernel_rfl) (fun _ _ _ h => h) (Or.inl ⟨by rfl, ?_⟩) ?_ ?_
            rotate_left
            · intro w'
              go_simp
              with_reducible rfl
            rotate_left
            · simp only [Act.put, List.setIfInBounds_toArray, List.set_cons_zero, List.set_cons_succ, i64_w, i32_w]
              rfl
            refine take_ (i := 4) (N := some 111) (v := ?_) (a' := ?_) #[true, true, true, true, true, false, false, false, false, false, false] rfl rfl (by kernel_rfl) (fun _ _ _ h => h) (Or.inl ⟨by rfl, ?_⟩) ⟨s0, s1, s2, s3, s4, s5⟩ ?_ ?_
            rotate_left
            · rintro w' ⟨zs0, zs1, zs2, zs3, zs4, zs5⟩
              go_simp
              with_reducible rfl
            rotate_left
            · simp only [Act.put, List.setIfInBounds_toArray, List.set_cons_zero, List.set_cons_succ, i64_w, i32_w]
              rfl
            refine take_ (i := 5) (N := some 112) (v := ?_) (a' := ?_) #[true, true, true, true, true, true, false, false, false, false, false] rfl rfl (by kernel_rfl) (fun _ _ _ h => h) (Or.inl ⟨by rfl, ?_⟩) ⟨s0, s1, s2, s3, s4, s5⟩ ?_ ?_
            rotate_left
            · rintro w' ⟨zs0, zs1, zs2, zs3, zs4, zs5⟩
              go_simp
              with_reducible rfl
            rotate_left
            · simp only [Act.put, List.setIfInBounds_toArray, List.set_cons_zero, List.set_cons_succ, i64_w, i32_w]
              rfl
            refine one_ (i := 6) (N := some 113) #[true, true, true, true, true, true, true, false, false, false, false] rfl rfl (by kernel_rfl) (by decide) (fun K hK => ?_)
            refine value_ (w1 := ?_) (v := ?_) (by rfl) rfl ?_ ?_
            rotate_left 2
            · go_simp
              constructor
              · rfl
              · rfl
            refine hK.out _ _ ⟨lift (below_box _ _) s0, lift (below_box _ _) s1, lift (below_box _ _) s2, lift (below_box _ _) s3, lift (below_box _ _) s4, lift (below_box _ _) s5⟩ (fun hHeld => ?_)
            clear hK K s0 s1 s2 s3 s4 s5
            obtain ⟨s0, s1, s2, s3, s4, s5⟩ := hHeld
            refine norm_ (a' := ?_) ?_ ?_
            rotate_left
            · show Act.put _ (some 113) _ = _
              simp only [Act.put, List.setIfInBounds_toArray, List.set_cons_zero, List.set_cons_succ, i64_w, i32_w]
              rfl
            refine one_ (i := 7) (N := some 114) #[true, true, true, true, true, true, true, true, false, false, false] rfl rfl (by kernel_rfl) (by decide) (fun K hK => ?_)
            refine step_append_lies _ (by rfl) _ _ _ (by rfl) hi 167 i0 _ 4 32 Tryz.underlying143 HI.out HZ0.out HZ1.out HZ2.out rfl (by omega) (.slice (some ⟨b, o, none⟩) (q + 1) rc) (q + 1) (T.flatMap prCs) (by rfl) ((own_below HOWN9.out (below_drew _)).alloc _) ⟨W9.heap.size, 0, none⟩ 1 1 (prC f).toList (by rfl) (by rfl) (World.news_of_block (cs := prC f) (t := 167) (fr := (0, 0)) (heap_alloc_new W9.drew _)) (by simp [Value.oneCell']) (by omega) hml (by omega) (by simp; omega) (W9.heap.size + 1) (by simp) ?_
            intro gg cap wA hownA hgrow hat hlt
            have BT := (((BV.lift hbW9).lift (below_drew _)).lift (below_box _ _)).grown hgrow av3
            refine hK.out _ _ ⟨lift_grown hgrow s0 av4, lift_grown hgrow s1 av3, lift_grown hgrow s2 avx, lift_grown hgrow s3 avx, lift_grown hgrow s4 avx, lift_grown hgrow s5 avx⟩ (fun hHeld => ?_)
            clear hK K s0 s1 s2 s3 s4 s5
            obtain ⟨s0, s1, s2, s3, s4, s5⟩ := hHeld
            refine norm_ (a' := ?_) ?_ ?_
            rotate_left
            · show Act.put _ (some 114) _ = _
              simp only [Act.put, List.setIfInBounds_toArray, List.set_cons_zero, List.set_cons_succ, i64_w, i32_w]
              rfl
            refine pure_ (i := 8) (N := some 115) (v := ?_) (a' := ?_) #[true, true, true, true, true, true, true, true, true, false, false] rfl rfl (by kernel_rfl) (fun _ _ _ h => h) (Or.inl ⟨by rfl, ?_⟩) ?_ ?_
            rotate_left
            · intro w'
              go_simp
              with_reducible rfl
            rotate_left
            · simp only [Act.put, List.setIfInBounds_toArray, List.set_cons_zero, List.set_cons_succ, i64_w, i32_w]
              rfl
            refine pure_ (i := 9) (N := some 116) (v := ?_) (a' := ?_) #[true, true, true, true, true, true, true, true, true, true, false] rfl rfl (by kernel_rfl) (fun _ _ _ h => h) (Or.inl ⟨by rfl, ?_⟩) ?_ ?_
            rotate_left
            · intro w'
              go_simp
              with_reducible rfl
            rotate_left
            · simp only [Act.put, List.setIfInBounds_toArray, List.set_cons_zero, List.set_cons_succ, i64_w, i32_w]
              rfl
            refine last_ (i := 10) (N := none) #[true, true, true, true, true, true, true, true, true, true, true] rfl rfl (by kernel_rfl) (by decide) (fun K hK => ?_)
            have hst := BT.cell 12 (.slice (some ⟨b, o, none⟩) (q + 1) rc) rfl
            have hsf := BT.free 12
            refine skip_ (w1 := ?_) (by rfl) rfl ?_ ?_
            rotate_left
            · go_simp
              rfl
            refine hK.out _ _ ?_
            clear hK K
            clear s0 s1 s2 s3 s4 s5
            refine done_ (by kernel_rfl) ?_
            gi_wp2
            have hgl := hownA.lt gg rfl
            have hgs := hgrow.size
            simp only [World.size_alloc, World.size_drew] at hgs
            refine ⟨(((KeepR.below hbW9 (by omega)).trans (KeepR.below (below_drew _) (by omega))).trans (KeepR.below (below_box _ _) (by simp; omega))).trans ((KeepR.grown hgrow (by simp; omega) (fun r e => by have := HLT0.out r e; omega)).trans (KeepR.grown (grown_set (grown_rfl _ _) (b := W3.heap.size) (k := 12) (.slice (some ⟨gg, 0, none⟩) ((q + 1) + 1) cap)) (by omega) (fun r e => by cases e; omega))), _, BT.set 12 _, ?_, grown_set (grown_far (grown_on (grown_on (grown_on hg2 (hbW9.mono (by omega))) ((below_drew _).mono (by omega))) ((below_box _ _).mono (by simp; omega))) hgrow (fun r e => by have := HLT0.out r e; omega)) _⟩
            rw [HDX.out.1, HDX.out.2]
            exact own_far hownA (fun e => by have := hownA.lt _ e; omega) _
      case done =>
        rintro hi W h1 h2 ⟨vv, BV, hown, hg2⟩ hK
        have hlen : (dnP m (enumP m.step none m.prs)).length ≤ 2000 := Nat.le_trans (dnP_len _ _) (enumP_le hm)
        obtain ⟨ra, rc, rfl, hrd, hrab⟩ := own_rd (f := prCs) (fun _ => rfl) (by omega) hown
        have hbW : Below w.heap.size w W := hw6.grown hg2 hw6.size (fun k e => by cases e; omega)
        have p7 := (B56.grown hg2 (fun e => by injection e; omega)).cell 0 (.pointer (some ⟨W3.heap.size, 0, none⟩)) rfl
        have hcanW := HCAN6.out.grown hg2 (fun e => by injection e; omega)
        rw [← lexM_dn] at BV hrd
        obtain ⟨N, hN⟩ : ∃ N, (lexM m).length = N := ⟨_, rfl⟩
        rw [hN] at BV hrd
        clear hown
        obtain ⟨Wf, hWf⟩ : ∃ Wf, W.putObj W6.heap.size (.deferred none) = Wf := ⟨_, rfl⟩
        have hgf : W.grownBy Wf (some W6.heap.size) := by rw [← hWf]; exact grownBy_putObj' _ _ _
        have hbWf : Below w.heap.size w Wf := hbW.grown hgf hbW.size (fun k e => by cases e; omega)
        have HR := run_takeDeferred (P := Tryz.prog) hK
        rw [hWf] at HR
        have HRT := Lib.hid HR
        clear HR hWf hN
        go_wp2
        refine ⟨by simp, .inl ⟨_, _, rfl, HRT.out, ?_⟩⟩
        have kf : ∀ b o u, b ≠ W6.heap.size → W.cell? ⟨b, o, none⟩ = some u → Wf.cell? ⟨b, o, none⟩ = some u := fun b o u hne hc => lift_grown hgf hc (fun e => hne (by injection e with e; exact e.symm))
        refine ⟨_, results_tmp2 rfl _ _ _, W3.heap.size, w1.heap.size, ⟨ra, N, rc⟩, rfl, ⟨?_, ?_, ?_, ?_, h.below hbWf, ?_, ?_⟩, by omega, hbWf⟩
        · have := hgf.size; have := hg2.size; omega
        · intro i x hx
          refine kf _ _ _ (by omega) (BV.cell i x ?_)
          have hi11 : i < 11 := (Array.getElem?_eq_some_iff.1 hx).1
          rw [← hx]
          rcases (show i = 0 ∨ i = 1 ∨ i = 2 ∨ i = 3 ∨ i = 4 ∨ i = 5 ∨ i = 6 ∨ i = 7 ∨ i = 8 ∨ i = 9 ∨ i = 10 by omega) with rfl | rfl | rfl | rfl | rfl | rfl | rfl | rfl | rfl | rfl | rfl <;> rfl
        · exact kf _ _ _ (by omega) (BV.cell 11 _ rfl)
        · exact kf _ _ _ (by omega) (BV.cell 12 _ rfl)
        · refine hrd.grown hgf (fun ad e => ?_)
          have := hrab ad e
          omega
        · refine (hcanW.grown hgf (fun e => by injection e; omega)).mono (fun a b => ?_)
          have := HLc.out
          constructor
          · exact fun hh => ⟨by omega, hh.2⟩
          · exact fun hh => ⟨by omega, hh.2⟩
end Go.Proofs.YtenfnakhijobkaaGreat
namespace Go.Proofs.YtenfnakhijobkaaGreat
open Go.RowKit Go.Proofs.YtenfnakhijobkaaGreatW.PrintLast
def readyS (m : MktD) (k : Int) : Int × Int :=
  if mktFault m ≠ 0 then (0, mktFault m) else if m.is k = false then (0, 2)
  else match (List.range m.sales.length).find? (canS m k.toNat) with
    | some s => ((s : Int), 0)
    | none => (0, 10)
set_option maxHeartbeats 4000000 in
set_option maxRecDepth 100000 in
theorem Ready_any (v : MktV) (m : MktD) (k : Int) (w : World) (h : RdMkt w v m) :
    Calls Tryz.prog 25 #[.agg v.cs, .int .i64 k] w fun e w' => e = .returned (.tuple #[.int .i64 (readyS m k).1, .int .i64 (readyS m k).2]) ∧ Below w.heap.size w w' := by
  obtain ⟨W0, hNW0, BX, hW0, hzW0⟩ := Box.named w v.cs 49
  have c0 := BX.cell 0 (.int .i64 v.loft.last) rfl
  have c1 := BX.cell 1 (.slice v.loft.air.a v.loft.air.n v.loft.air.c) rfl
  have c2 := BX.cell 2 (.slice v.loft.shelves.a v.loft.shelves.n v.loft.shelves.c) rfl
  have c3 := BX.cell 3 (.slice v.loft.cakes.a v.loft.cakes.n v.loft.cakes.c) rfl
  have c4 := BX.cell 4 (.slice v.loft.put.a v.loft.put.n v.loft.put.c) rfl
  have c5 := BX.cell 5 (.slice v.loft.weights.a v.loft.weights.n v.loft.weights.c) rfl
  have c6 := BX.cell 6 (.slice v.sales.a v.sales.n v.sales.c) rfl
  have c7 := BX.cell 7 (.slice v.chests.a v.chests.n v.chests.c) rfl
  have c8 := BX.cell 8 (.int .i64 v.step) rfl
  have c9 := BX.cell 9 (.int .i64 v.lots) rfl
  have c10 := BX.cell 10 (.slice v.notes.a v.notes.n v.notes.c) rfl
  by_cases h0 : mktFault m = 0
  · have hm := MOk.of h0
    have hA := Lib.hid (work_ok v m W0 (h.below hW0) h0)
    have HLc : Hid (m.chests.length = v.chests.n) := h.chests.len
    have HLs : Hid (m.sales.length = v.sales.n) := h.sales.len
    have hs4 : v.sales.n ≤ 4 := by have := hm.s4; have := HLs.out; omega
    cases hk : m.is k
    · have HE : Hid (readyS m k = (0, 2)) := by show _ = _; rw [readyS, if_neg (by simp [h0]), if_pos hk]
      go_enter Tryz.func25, Tryz.ntmps25
      go_wp2_with (first | (go_at_call 86; refine hA.out.mono ?_; rintro e w1 ⟨B, r, s, rfl, hwk, hr, hb1⟩; have d0 := (BX.lift hb1).cell 0 (.int .i64 v.loft.last) rfl; have d1 := (BX.lift hb1).cell 1 (.slice v.loft.air.a v.loft.air.n v.loft.air.c) rfl; have d2 := (BX.lift hb1).cell 2 (.slice v.loft.shelves.a v.loft.shelves.n v.loft.shelves.c) rfl; have d3 := (BX.lift hb1).cell 3 (.slice v.loft.cakes.a v.loft.cakes.n v.loft.cakes.c) rfl; have d4 := (BX.lift hb1).cell 4 (.slice v.loft.put.a v.loft.put.n v.loft.put.c) rfl; have d5 := (BX.lift hb1).cell 5 (.slice v.loft.weights.a v.loft.weights.n v.loft.weights.c) rfl; have d6 := (BX.lift hb1).cell 6 (.slice v.sales.a v.sales.n v.sales.c) rfl; have d7 := (BX.lift hb1).cell 7 (.slice v.chests.a v.chests.n v.chests.c) rfl; have d8 := (BX.lift hb1).cell 8 (.int .i64 v.step) rfl; have d9 := (BX.lift hb1).cell 9 (.int .i64 v.lots) rfl; have d10 := (BX.lift hb1).cell 10 (.slice v.notes.a v.notes.n v.notes.c) rfl) | (go_at_call 87; refine (call_b (isM_any v m k _ (h.below (below_on hW0 hb1))) hk).mono ?_; rintro e w2 ⟨rfl, hb2⟩))
      go_ret2
      rw [HE.out]
      exact ⟨rfl, below_on (below_on hW0 hb1) hb2⟩
    · have hk2 := hk
      rw [MktD.is, inB_iff] at hk2
      obtain ⟨kn, rfl⟩ := Int.eq_ofNat_of_zero_le hk2.1
      have hkl : kn < m.chests.length := by omega
      have HE : Hid (readyS m (kn : Int) = match (List.range v.sales.n).find? (canS m kn) with | some s => ((s : Int), 0) | none => (0, 10)) := by
        show _ = _
        rw [readyS, if_neg (by simp [h0]), if_neg (by simp [hk]), Int.toNat_natCast, HLs.out]
      clear hk2
      go_enter Tryz.func25, Tryz.ntmps25
      go_wp2_with (first | (go_at_call 86; refine hA.out.mono ?_; rintro e w1 ⟨B, r, s, rfl, hwk, hr, hb1⟩; have d0 := (BX.lift hb1).cell 0 (.int .i64 v.loft.last) rfl; have d1 := (BX.lift hb1).cell 1 (.slice v.loft.air.a v.loft.air.n v.loft.air.c) rfl; have d2 := (BX.lift hb1).cell 2 (.slice v.loft.shelves.a v.loft.shelves.n v.loft.shelves.c) rfl; have d3 := (BX.lift hb1).cell 3 (.slice v.loft.cakes.a v.loft.cakes.n v.loft.cakes.c) rfl; have d4 := (BX.lift hb1).cell 4 (.slice v.loft.put.a v.loft.put.n v.loft.put.c) rfl; have d5 := (BX.lift hb1).cell 5 (.slice v.loft.weights.a v.loft.weights.n v.loft.weights.c) rfl; have d6 := (BX.lift hb1).cell 6 (.slice v.sales.a v.sales.n v.sales.c) rfl; have d7 := (BX.lift hb1).cell 7 (.slice v.chests.a v.chests.n v.chests.c) rfl; have d8 := (BX.lift hb1).cell 8 (.int .i64 v.step) rfl; have d9 := (BX.lift hb1).cell 9 (.int .i64 v.lots) rfl; have d10 := (BX.lift hb1).cell 10 (.slice v.notes.a v.notes.n v.notes.c) rfl) | (go_at_call 87; refine (call_b (isM_any v m kn _ (h.below (below_on hW0 hb1))) hk).mono ?_; rintro e w2 ⟨rfl, hb2⟩; have f6 := ((BX.lift hb1).lift hb2).cell 6 (.slice v.sales.a v.sales.n v.sales.c) rfl))
      have HWK := Lib.hid (hwk.below hb2)
      have p11 := HWK.out.c11
      have hw2 := below_on (below_on hW0 hb1) hb2
      clear d0 d1 d2 d3 d4 d5 d6 d7 d8 d9 d10 c0 c1 c2 c3 c4 c5 c6 c7 c8 c9 c10 f6 hwk hk
      go_loopw [26] (fun i wr => ∃ j : Nat, j ≤ v.sales.n ∧ i = .int .i64 j ∧ Hid (∀ q, q < j → canS m kn q = false) ∧ w2 = wr) (fun i _ => v.sales.n - (intOf i).toNat)
      case atStart => exact ⟨0, Nat.zero_le _, rfl, (fun q hq => absurd hq (Nat.not_lt_zero q)), rfl⟩
      case round =>
        obtain ⟨j, hj, rfl, hq, rfl⟩ := hrel
        by_cases hlt : j < v.sales.n
        · have hlook := HWK.out.can.look (i := kn) (k := j) ⟨hkl, by have := HLs.out; omega⟩
          obtain ⟨cb, hcb⟩ : ∃ cb, canS m kn j = cb := ⟨_, rfl⟩
          rw [hcb] at hlook
          have HCB := Lib.hid hcb
          clear hcb
          cases cb
          · go_wp2
            go_roundw
            case measure => simp [intOf]; omega
            case rel => exact ⟨j + 1, by omega, by go_num, (fun q hq2 => by
              by_cases e : q = j
              · rw [e]; exact HCB.out
              · exact hq.out q (by omega)), trivial⟩
          · have HF : Hid (readyS m (kn : Int) = ((j : Int), 0)) := by show _ = _; rw [HE.out, find_some_of hlt HCB.out hq.out]
            go_wp2
            go_ret2
            rw [HF.out]
            exact ⟨rfl, hw2⟩
        · obtain rfl : j = v.sales.n := by omega
          have HF : Hid (readyS m (kn : Int) = (0, 10)) := by show _ = _; rw [HE.out, find_none_of hq.out]
          go_wp2
          go_ret2
          rw [HF.out]
          exact ⟨rfl, hw2⟩
  · have HE : Hid (readyS m k = (0, mktFault m)) := by show _ = _; rw [readyS, if_pos h0]
    have hA := work_err v m W0 (h.below hW0) h0
    obtain ⟨ev, hev⟩ : ∃ ev, mktFault m = ev := ⟨_, rfl⟩
    rw [hev] at hA h0 HE
    have hnb : (ev != 0) = true := by simp [h0]
    have HA := Lib.hid hA
    clear hA hev h0
    go_enter Tryz.func25, Tryz.ntmps25
    go_wp2_with (go_at_call 86; refine HA.out.mono ?_; rintro e w1 ⟨rfl, hb1⟩)
    go_ret2
    rw [HE.out]
    exact ⟨rfl, below_on hW0 hb1⟩
end Go.Proofs.YtenfnakhijobkaaGreat
namespace Go.Proofs.YtenfnakhijobkaaGreat
open Go.RowKit Go.Proofs.YtenfnakhijobkaaGreatW.PrintLast
def posAt (m : MktD) (plan : List Int) (i : Nat) : Bool := (plan.getD i 0 == -1) || (decide (cnt (plan.take (i + 1)) (plan.getD i 0) ≤ m.lots) && canS m i (plan.getD i 0).toNat)
def possS (m : MktD) (plan : List Int) : Bool := (List.range plan.length).all (posAt m plan)
set_option maxHeartbeats 4000000 in
set_option maxRecDepth 100000 in
theorem possible_any (B r : Nat) (v : MktV) (m : MktD) (s : Sl) (hm : MOk m) (sp : Sl) (plan : List Int) (hpl : plan.length ≤ m.chests.length) (hpb : ∀ x ∈ plan, -1 ≤ x ∧ x < m.sales.length) (w : World) (h : SaleWk w B r v m s) (hp : RdInts w sp plan) :
    Calls Tryz.prog 145 #[.pointer (some ⟨B, 0, none⟩), .slice sp.a sp.n sp.c] w fun e w' => e = .returned (.bool (possS m plan)) ∧ Below w.heap.size w w' := by
  obtain ⟨pa, pn, pc⟩ := sp
  have HL : Hid (plan.length = pn) := hp.len
  have hn4 : pn ≤ 4 := by have := hm.c4; have := HL.out; omega
  have hs4 := hm.s4
  have HE : Hid (possS m plan = (List.range pn).all (posAt m plan)) := by show _ = _; rw [← HL.out]; rfl
  have HPB := Lib.hid hpb
  have hlots := hm.lots
  have HLO : Hid (v.lots = m.lots) := h.mkt.lots
  obtain ⟨lo, hlo⟩ : ∃ lo, m.lots = lo := ⟨_, rfl⟩
  rw [hlo] at hlots HLO
  have HLO2 := Lib.hid hlo
  clear hpb hlo
  obtain ⟨W0, hNW0, BX, hW0, hzW0⟩ := Box.named w (prC (fun _ => 0)) 166
  go_enter Tryz.func145, Tryz.ntmps145
  go_wp2
  clear hNW0
  go_loopw [10] (fun i wr => ∃ k : Nat, k ≤ pn ∧ i = .int .i64 k ∧ Box wr w.heap.size (prC (fun j : Nat => cnt (plan.take k) j)) 166 ∧ Hid ((List.range k).all (posAt m plan) = true) ∧ Below w.heap.size w wr) (fun i _ => pn - (intOf i).toNat)
  case atStart => exact ⟨0, Nat.zero_le _, rfl, by simpa [cnt] using BX, by simp [Hid], hW0⟩
  case round =>
    obtain ⟨k, hk, rfl, BU, hq, hb⟩ := hrel
    by_cases hlt : k < pn
    · obtain ⟨x, hx⟩ := at_of_lt HL.out hlt
      obtain ⟨pb, po, hpa, hpbl, hpc⟩ := (hp.below (encR_mono _) hb).int_at hx
      have hxb := HPB.out x (List.mem_of_getElem? hx)
      have hgd : plan.getD k 0 = x := by rw [List.getD_eq_getElem?_getD, hx]; rfl
      have HP : Hid (posAt m plan k = ((x == -1) || (decide (cnt (plan.take (k + 1)) x ≤ lo) && canS m k x.toNat))) := by
        show _ = _
        rw [posAt, hgd, HLO2.out]
      have HCN := Lib.hid (fun s => cnt_take s hx)
      simp only at hpa
      subst hpa
      clear hx hgd
      by_cases hx1 : x = -1
      · subst hx1
        go_wp2
        go_roundw
        case measure => simp [intOf]; omega
        case rel => exact ⟨k + 1, by omega, by go_num, by
          have e : (fun j : Nat => cnt (plan.take (k + 1)) j) = fun j : Nat => cnt (plan.take k) j := by
            funext j
            rw [HCN.out, if_neg (by omega)]; omega
          rw [e]; exact BU, by show _ = true; rw [range_all_succ, hq.out, HP.out]; rfl, hb⟩
      · obtain ⟨sn, rfl⟩ := Int.eq_ofNat_of_zero_le (show 0 ≤ x by omega)
        have hxe : ((sn : Int) == -1) = false := by simp
        have hsn4 : sn < 4 := by omega
        have u0 := BU.cell sn _ (prC_at _ hsn4)
        have u1 := BU.free sn
        have hcb := cnt_le (plan.take k) sn
        have hcl : (plan.take k).length ≤ 4 := by have := HL.out; rw [List.length_take]; omega
        have hcn0 := cnt_nonneg (plan.take k) sn
        have BU2 := BU.set sn (.int .i64 (cnt (plan.take k) sn + 1))
        rw [prC_set _ hsn4] at BU2
        have hfe : putF (fun j : Nat => cnt (plan.take k) j) sn (cnt (plan.take k) sn + 1) = fun j : Nat => cnt (plan.take (k + 1)) j := by
          funext j
          unfold putF
          rw [HCN.out]
          by_cases e : j = sn
          · rw [if_pos e, e, if_pos rfl]
          · rw [if_neg e, if_neg (by omega)]
            show cnt (plan.take k) (j : Int) = _
            omega
        rw [hfe] at BU2
        obtain ⟨cv, hcv⟩ : ∃ cv, cnt (plan.take k) sn = cv := ⟨_, rfl⟩
        have HC1 : Hid (cnt (plan.take (k + 1)) sn = cv + 1) := by show _ = _; rw [HCN.out, if_pos rfl, hcv]
        simp only [hcv] at u0
        rw [hcv] at BU2 hcb hcn0
        obtain ⟨W2, hW2⟩ : ∃ W2, wr.setCell ⟨w.heap.size, sn, none⟩ (.int .i64 (cv + 1)) = W2 := ⟨_, rfl⟩
        rw [hW2] at BU2
        have hb2 : Below w.heap.size w W2 := by rw [← hW2]; exact below_set hb (Nat.le_refl _) _
        have m0 := BU2.cell sn _ (prC_at _ hsn4)
        simp only [HC1.out] at m0
        have HWK := Lib.hid (h.below hb2)
        have c9 := HWK.out.cells 9 (.int .i64 v.lots) rfl
        rw [HLO.out] at c9
        have c11 := HWK.out.c11
        have hsi : (0 : Int) ≤ (sn : Int) := by omega
        have hsj : (sn : Int) < 4 := by omega
        clear hcv hfe hx1
        by_cases hle : cv + 1 ≤ lo
        · have hgt : decide (lo < cv + 1) = false := by simp; omega
          have HLK := Lib.hid (HWK.out.can.lift (below_drew W2))
          have hcan := HLK.out.look (i := k) (k := sn) ⟨by have := HL.out; omega, by omega⟩
          obtain ⟨cb, hcb2⟩ : ∃ cb, canS m k sn = cb := ⟨_, rfl⟩
          rw [hcb2] at hcan
          have HLOOK := Lib.hid hcan
          have HCB := Lib.hid hcb2
          clear hcan hcb2
          cases cb
          · go_wp2
            clear hW2
            refine start_ (n := 20) (S := fun w' => w'.cell? ⟨w.heap.size, sn, none⟩ = some (.int .i64 (cv + 1)) ∧ w'.cell? ⟨B, 9, none⟩ = some (.int .i64 lo) ∧ w'.cell? ⟨B, 11, none⟩ = some (.map (some r))) (ds := []) #[false, false, false, false, false, false, false, false, false, false, false, false, false, false, false, false, false, false, false, false] (by kernel_rfl) rfl rfl ⟨m0, c9, c11⟩ (fun hHeld => ?_)
            obtain ⟨s0, s1, s2⟩ := hHeld
            refine pure_ (i := 0) (N := some 22) (v := ?_) (a' := ?_) #[true, false, false, false, false, false, false, false, false, false, false, false, false, false, false, false, false, false, false, false] rfl rfl (by kernel_rfl) (fun _ _ _ h => h) (Or.inl ⟨by rfl, ?_⟩) ?_ ?_
            rotate_left
            · intro w'
              go_simp
              with_reducible rfl
            rotate_left
            · simp only [Act.put, List.setIfInBounds_toArray, List.set_cons_zero, List.set_cons_succ, i64_w, i32_w]
              rfl
            refine pure_ (i := 1) (N := some 23) (v := ?_) (a' := ?_) #[true, true, false, false, false, false, false, false, false, false, false, false, false, false, false, false, false, false, false, false] rfl rfl (by kernel_rfl) (fun _ _ _ h => h) (Or.inl ⟨by rfl, ?_⟩) ?_ ?_
            rotate_left
            · intro w'
              go_simp
              with_reducible rfl
            rotate_left
            · simp only [Act.put, List.setIfInBounds_toArray, List.set_cons_zero, List.set_cons_succ, i64_w, i32_w]
              rfl
            refine pure_ (i := 3) (N := some 25) (v := ?_) (a' := ?_) #[true, true, false, true, false, false, false, false, false, false, false, false, false, false, false, false, false, false, false, false] rfl rfl (by kernel_rfl) (fun _ _ _ h => h) (Or.inl ⟨by rfl, ?_⟩) ?_ ?_
            rotate_left
            · intro w'
              go_simp
              with_reducible rfl
            rotate_left
            · simp only [Act.put, List.setIfInBounds_toArray, List.set_cons_zero, List.set_cons_succ, i64_w, i32_w]
              rfl
            refine pure_ (i := 4) (N := some 26) (v := ?_) (a' := ?_) #[true, true, false, true, true, false, false, false, false, false, false, false, false, false, false, false, false, false, false, false] rfl rfl (by kernel_rfl) (fun _ _ _ h => h) (Or.inl ⟨by rfl, ?_⟩) ?_ ?_
            rotate_left
            · intro w'
              go_simp
              with_reducible rfl
            rotate_left
            · simp only [Act.put, List.setIfInBounds_toArray, List.set_cons_zero, List.set_cons_succ, i64_w, i32_w]
              rfl
            refine pure_ (i := 5) (N := some 27) (v := ?_) (a' := ?_) #[true, true, false, true, true, true, false, false, false, false, false, false, false, false, false, false, false, false, false, false] rfl rfl (by kernel_rfl) (fun _ _ _ h => h) (Or.inl ⟨by rfl, ?_⟩) ?_ ?_
            rotate_left
            · intro w'
              go_simp
              with_reducible rfl
            rotate_left
            · simp only [Act.put, List.setIfInBounds_toArray, List.set_cons_zero, List.set_cons_succ, i64_w, i32_w]
              rfl
            refine pure_ (i := 6) (N := some 28) (v := ?_) (a' := ?_) #[true, true, false, true, true, true, true, false, false, false, false, false, false, false, false, false, false, false, false, false] rfl rfl (by kernel_rfl) (fun _ _ _ h => h) (Or.inl ⟨by rfl, ?_⟩) ?_ ?_
            rotate_left
            · intro w'
              go_simp
              with_reducible rfl
            rotate_left
            · simp only [Act.put, List.setIfInBounds_toArray, List.set_cons_zero, List.set_cons_succ, i64_w, i32_w]
              rfl
            refine take_ (i := 2) (N := some 24) (v := ?_) (a' := ?_) #[true, true, true, true, true, true, true, false, false, false, false, false, false, false, false, false, false, false, false, false] rfl rfl (by kernel_rfl) (fun _ _ _ h => h) (Or.inl ⟨by rfl, ?_⟩) ⟨s0, s1, s2⟩ ?_ ?_
            rotate_left
            · rintro w' ⟨zs0, zs1, zs2⟩
              go_simp
              with_reducible rfl
            rotate_left
            · simp only [Act.put, List.setIfInBounds_toArray, List.set_cons_zero, List.set_cons_succ, i64_w, i32_w]
              rfl
            refine take_ (i := 7) (N := some 29) (v := ?_) (a' := ?_) #[true, true, true, true, true, true, true, true, false, false, false, false, false, false, false, false, false, false, false, false] rfl rfl (by kernel_rfl) (fun _ _ _ h => h) (Or.inl ⟨by rfl, ?_⟩) ⟨s0, s1, s2⟩ ?_ ?_
            rotate_left
            · rintro w' ⟨zs0, zs1, zs2⟩
              go_simp
              with_reducible rfl
            rotate_left
            · simp only [Act.put, List.setIfInBounds_toArray, List.set_cons_zero, List.set_cons_succ, i64_w, i32_w]
              rfl
            refine pure_ (i := 8) (N := some 30) (v := ?_) (a' := ?_) #[true, true, true, true, true, true, true, true, true, false, false, false, false, false, false, false, false, false, false, false] rfl rfl (by kernel_rfl) (fun _ _ _ h => h) (Or.inl ⟨by rfl, ?_⟩) ?_ ?_
            rotate_left
            · intro w'
              go_simp
              with_reducible rfl
            rotate_left
            · simp only [Act.put, List.setIfInBounds_toArray, List.set_cons_zero, List.set_cons_succ, i64_w, i32_w]
              rfl
            refine pure_ (i := 9) (N := some 31) (v := ?_) (a' := ?_) #[true, true, true, true, true, true, true, true, true, true, false, false, false, false, false, false, false, false, false, false] rfl rfl (by kernel_rfl) (fun _ _ _ h => h) (Or.inl ⟨by rfl, ?_⟩) ?_ ?_
            rotate_left
            · intro w'
              go_simp
              with_reducible rfl
            rotate_left
            · simp only [Act.put, List.setIfInBounds_toArray, List.set_cons_zero, List.set_cons_succ, i64_w, i32_w]
              rfl
            refine pure_ (i := 10) (N := some 32) (v := ?_) (a' := ?_) #[true, true, true, true, true, true, true, true, true, true, true, false, false, false, false, false, false, false, false, false] rfl rfl (by kernel_rfl) (fun _ _ _ h => h) (Or.inl ⟨by rfl, ?_⟩) ?_ ?_
            rotate_left
            · intro w'
              go_simp
              with_reducible rfl
            rotate_left
            · simp only [Act.put, List.setIfInBounds_toArray, List.set_cons_zero, List.set_cons_succ, i64_w, i32_w]
              rfl
            refine pure_ (i := 11) (N := some 33) (v := ?_) (a' := ?_) #[true, true, true, true, true, true, true, true, true, true, true, true, false, false, false, false, false, false, false, false] rfl rfl (by kernel_rfl) (fun _ _ _ h => h) (Or.inl ⟨by rfl, ?_⟩) ?_ ?_
            rotate_left
            · intro w'
              go_simp
              with_reducible rfl
            rotate_left
            · simp only [Act.put, List.setIfInBounds_toArray, List.set_cons_zero, List.set_cons_succ, i64_w, i32_w]
              rfl
            refine pure_ (i := 12) (N := some 34) (v := ?_) (a' := ?_) #[true, true, true, true, true, true, true, true, true, true, true, true, true, false, false, false, false, false, false, false] rfl rfl (by kernel_rfl) (fun _ _ _ h => h) (Or.inl ⟨by rfl, ?_⟩) ?_ ?_
            rotate_left
            · intro w'
              go_simp
              with_reducible rfl
            rotate_left
            · simp only [Act.put, List.setIfInBounds_toArray, List.set_cons_zero, List.set_cons_succ, i64_w, i32_w]
              rfl
            refine pure_ (i := 14) (N := some 36) (v := ?_) (a' := ?_) #[true, true, true, true, true, true, true, true, true, true, true, true, true, false, true, false, false, false, false, false] rfl rfl (by kernel_rfl) (fun _ _ _ h => h) (Or.inl ⟨by rfl, ?_⟩) ?_ ?_
            rotate_left
            · intro w'
              go_simp
              with_reducible rfl
            rotate_left
            · simp only [Act.put, List.setIfInBounds_toArray, List.set_cons_zero, List.set_cons_succ, i64_w, i32_w]
              rfl
            refine pure_ (i := 15) (N := some 37) (v := ?_) (a' := ?_) #[true, true, true, true, true, true, true, true, true, true, true, true, true, false, true, true, false, false, false, false] rfl rfl (by kernel_rfl) (fun _ _ _ h => h) (Or.inl ⟨by rfl, ?_⟩) ?_ ?_
            rotate_left
            · intro w'
              go_simp
              with_reducible rfl
            rotate_left
            · simp only [Act.put, List.setIfInBounds_toArray, List.set_cons_zero, List.set_cons_succ, i64_w, i32_w]
              rfl
            refine pure_ (i := 16) (N := some 38) (v := ?_) (a' := ?_) #[true, true, true, true, true, true, true, true, true, true, true, true, true, false, true, true, true, false, false, false] rfl rfl (by kernel_rfl) (fun _ _ _ h => h) (Or.inl ⟨by rfl, ?_⟩) ?_ ?_
            rotate_left
            · intro w'
              go_simp
              with_reducible rfl
            rotate_left
            · simp only [Act.put, List.setIfInBounds_toArray, List.set_cons_zero, List.set_cons_succ, i64_w, i32_w]
              rfl
            refine take_ (i := 13) (N := some 35) (v := ?_) (a' := ?_) #[true, true, true, true, true, true, true, true, true, true, true, true, true, true, true, true, true, false, false, false] rfl rfl (by kernel_rfl) (fun _ _ _ h => h) (Or.inl ⟨by rfl, ?_⟩) ⟨s0, s1, s2⟩ ?_ ?_
            rotate_left
            · rintro w' ⟨zs0, zs1, zs2⟩
              go_simp
              with_reducible rfl
            rotate_left
            · simp only [Act.put, List.setIfInBounds_toArray, List.set_cons_zero, List.set_cons_succ, i64_w, i32_w]
              rfl
            refine one_ (i := 17) (N := some 39) #[true, true, true, true, true, true, true, true, true, true, true, true, true, true, true, true, true, true, false, false] rfl rfl (by kernel_rfl) (by decide) (fun K hK => ?_)
            refine value_ (w1 := W2.drew) (v := .bool false) (by rfl) rfl ?_ ?_
            · have hlook := HLOOK.out
              unfold execOp
              go_simp
            refine hK.out _ _ ⟨s0, s1, s2⟩ (fun hHeld => ?_)
            clear hK K s0 s1 s2
            obtain ⟨s0, s1, s2⟩ := hHeld
            refine norm_ (a' := ?_) ?_ ?_
            rotate_left
            · show Act.put _ (some 39) _ = _
              simp only [Act.put, List.setIfInBounds_toArray, List.set_cons_zero, List.set_cons_succ, i64_w, i32_w]
              rfl
            refine pure_ (i := 18) (N := some 40) (v := ?_) (a' := ?_) #[true, true, true, true, true, true, true, true, true, true, true, true, true, true, true, true, true, true, true, false] rfl rfl (by kernel_rfl) (fun _ _ _ h => h) (Or.inl ⟨by rfl, ?_⟩) ?_ ?_
            rotate_left
            · intro w'
              go_simp
              with_reducible rfl
            rotate_left
            · simp only [Act.put, List.setIfInBounds_toArray, List.set_cons_zero, List.set_cons_succ, i64_w, i32_w]
              rfl
            refine pure_ (i := 19) (N := some 41) (v := ?_) (a' := ?_) #[true, true, true, true, true, true, true, true, true, true, true, true, true, true, true, true, true, true, true, true] rfl rfl (by kernel_rfl) (fun _ _ _ h => h) (Or.inl ⟨by rfl, ?_⟩) ?_ ?_
            rotate_left
            · intro w'
              go_simp
              with_reducible rfl
            rotate_left
            · simp only [Act.put, List.setIfInBounds_toArray, List.set_cons_zero, List.set_cons_succ, i64_w, i32_w]
              rfl
            refine done_ (by kernel_rfl) ?_
            go_wp2
            go_ret
            refine ⟨ret_bool ?_, below_on hb2 (below_drew W2)⟩
            rw [HE.out]
            symm
            exact range_all_of hlt (by rw [HP.out, hxe, Int.toNat_natCast, HCB.out]; simp)
          · go_wp2
            clear hW2
            refine start_ (n := 20) (S := fun w' => w'.cell? ⟨w.heap.size, sn, none⟩ = some (.int .i64 (cv + 1)) ∧ w'.cell? ⟨B, 9, none⟩ = some (.int .i64 lo) ∧ w'.cell? ⟨B, 11, none⟩ = some (.map (some r))) (ds := []) #[false, false, false, false, false, false, false, false, false, false, false, false, false, false, false, false, false, false, false, false] (by kernel_rfl) rfl rfl ⟨m0, c9, c11⟩ (fun hHeld => ?_)
            obtain ⟨s0, s1, s2⟩ := hHeld
            refine pure_ (i := 0) (N := some 22) (v := ?_) (a' := ?_) #[true, false, false, false, false, false, false, false, false, false, false, false, false, false, false, false, false, false, false, false] rfl rfl (by kernel_rfl) (fun _ _ _ h => h) (Or.inl ⟨by rfl, ?_⟩) ?_ ?_
            rotate_left
            · intro w'
              go_simp
              with_reducible rfl
            rotate_left
            · simp only [Act.put, List.setIfInBounds_toArray, List.set_cons_zero, List.set_cons_succ, i64_w, i32_w]
              rfl
            refine pure_ (i := 1) (N := some 23) (v := ?_) (a' := ?_) #[true, true, false, false, false, false, false, false, false, false, false, false, false, false, false, false, false, false, false, false] rfl rfl (by kernel_rfl) (fun _ _ _ h => h) (Or.inl ⟨by rfl, ?_⟩) ?_ ?_
            rotate_left
            · intro w'
              go_simp
              with_reducible rfl
            rotate_left
            · simp only [Act.put, List.setIfInBounds_toArray, List.set_cons_zero, List.set_cons_succ, i64_w, i32_w]
              rfl
            refine pure_ (i := 3) (N := some 25) (v := ?_) (a' := ?_) #[true, true, false, true, false, false, false, false, false, false, false, false, false, false, false, false, false, false, false, false] rfl rfl (by kernel_rfl) (fun _ _ _ h => h) (Or.inl ⟨by rfl, ?_⟩) ?_ ?_
            rotate_left
            · intro w'
              go_simp
              with_reducible rfl
            rotate_left
            · simp only [Act.put, List.setIfInBounds_toArray, List.set_cons_zero, List.set_cons_succ, i64_w, i32_w]
              rfl
            refine pure_ (i := 4) (N := some 26) (v := ?_) (a' := ?_) #[true, true, false, true, true, false, false, false, false, false, false, false, false, false, false, false, false, false, false, false] rfl rfl (by kernel_rfl) (fun _ _ _ h => h) (Or.inl ⟨by rfl, ?_⟩) ?_ ?_
            rotate_left
            · intro w'
              go_simp
              with_reducible rfl
            rotate_left
            · simp only [Act.put, List.setIfInBounds_toArray, List.set_cons_zero, List.set_cons_succ, i64_w, i32_w]
              rfl
            refine pure_ (i := 5) (N := some 27) (v := ?_) (a' := ?_) #[true, true, false, true, true, true, false, false, false, false, false, false, false, false, false, false, false, false, false, false] rfl rfl (by kernel_rfl) (fun _ _ _ h => h) (Or.inl ⟨by rfl, ?_⟩) ?_ ?_
            rotate_left
            · intro w'
              go_simp
              with_reducible rfl
            rotate_left
            · simp only [Act.put, List.setIfInBounds_toArray, List.set_cons_zero, List.set_cons_succ, i64_w, i32_w]
              rfl
            refine pure_ (i := 6) (N := some 28) (v := ?_) (a' := ?_) #[true, true, false, true, true, true, true, false, false, false, false, false, false, false, false, false, false, false, false, false] rfl rfl (by kernel_rfl) (fun _ _ _ h => h) (Or.inl ⟨by rfl, ?_⟩) ?_ ?_
            rotate_left
            · intro w'
              go_simp
              with_reducible rfl
            rotate_left
            · simp only [Act.put, List.setIfInBounds_toArray, List.set_cons_zero, List.set_cons_succ, i64_w, i32_w]
              rfl
            refine take_ (i := 2) (N := some 24) (v := ?_) (a' := ?_) #[true, true, true, true, true, true, true, false, false, false, false, false, false, false, false, false, false, false, false, false] rfl rfl (by kernel_rfl) (fun _ _ _ h => h) (Or.inl ⟨by rfl, ?_⟩) ⟨s0, s1, s2⟩ ?_ ?_
            rotate_left
            · rintro w' ⟨zs0, zs1, zs2⟩
              go_simp
              with_reducible rfl
            rotate_left
            · simp only [Act.put, List.setIfInBounds_toArray, List.set_cons_zero, List.set_cons_succ, i64_w, i32_w]
              rfl
            refine take_ (i := 7) (N := some 29) (v := ?_) (a' := ?_) #[true, true, true, true, true, true, true, true, false, false, false, false, false, false, false, false, false, false, false, false] rfl rfl (by kernel_rfl) (fun _ _ _ h => h) (Or.inl ⟨by rfl, ?_⟩) ⟨s0, s1, s2⟩ ?_ ?_
            rotate_left
            · rintro w' ⟨zs0, zs1, zs2⟩
              go_simp
              with_reducible rfl
            rotate_left
            · simp only [Act.put, List.setIfInBounds_toArray, List.set_cons_zero, List.set_cons_succ, i64_w, i32_w]
              rfl
            refine pure_ (i := 8) (N := some 30) (v := ?_) (a' := ?_) #[true, true, true, true, true, true, true, true, true, false, false, false, false, false, false, false, false, false, false, false] rfl rfl (by kernel_rfl) (fun _ _ _ h => h) (Or.inl ⟨by rfl, ?_⟩) ?_ ?_
            rotate_left
            · intro w'
              go_simp
              with_reducible rfl
            rotate_left
            · simp only [Act.put, List.setIfInBounds_toArray, List.set_cons_zero, List.set_cons_succ, i64_w, i32_w]
              rfl
            refine pure_ (i := 9) (N := some 31) (v := ?_) (a' := ?_) #[true, true, true, true, true, true, true, true, true, true, false, false, false, false, false, false, false, false, false, false] rfl rfl (by kernel_rfl) (fun _ _ _ h => h) (Or.inl ⟨by rfl, ?_⟩) ?_ ?_
            rotate_left
            · intro w'
              go_simp
              with_reducible rfl
            rotate_left
            · simp only [Act.put, List.setIfInBounds_toArray, List.set_cons_zero, List.set_cons_succ, i64_w, i32_w]
              rfl
            refine pure_ (i := 10) (N := some 32) (v := ?_) (a' := ?_) #[true, true, true, true, true, true, true, true, true, true, true, false, false, false, false, false, false, false, false, false] rfl rfl (by kernel_rfl) (fun _ _ _ h => h) (Or.inl ⟨by rfl, ?_⟩) ?_ ?_
            rotate_left
            · intro w'
              go_simp
              with_reducible rfl
            rotate_left
            · simp only [Act.put, List.setIfInBounds_toArray, List.set_cons_zero, List.set_cons_succ, i64_w, i32_w]
              rfl
            refine pure_ (i := 11) (N := some 33) (v := ?_) (a' := ?_) #[true, true, true, true, true, true, true, true, true, true, true, true, false, false, false, false, false, false, false, false] rfl rfl (by kernel_rfl) (fun _ _ _ h => h) (Or.inl ⟨by rfl, ?_⟩) ?_ ?_
            rotate_left
            · intro w'
              go_simp
              with_reducible rfl
            rotate_left
            · simp only [Act.put, List.setIfInBounds_toArray, List.set_cons_zero, List.set_cons_succ, i64_w, i32_w]
              rfl
            refine pure_ (i := 12) (N := some 34) (v := ?_) (a' := ?_) #[true, true, true, true, true, true, true, true, true, true, true, true, true, false, false, false, false, false, false, false] rfl rfl (by kernel_rfl) (fun _ _ _ h => h) (Or.inl ⟨by rfl, ?_⟩) ?_ ?_
            rotate_left
            · intro w'
              go_simp
              with_reducible rfl
            rotate_left
            · simp only [Act.put, List.setIfInBounds_toArray, List.set_cons_zero, List.set_cons_succ, i64_w, i32_w]
              rfl
            refine pure_ (i := 14) (N := some 36) (v := ?_) (a' := ?_) #[true, true, true, true, true, true, true, true, true, true, true, true, true, false, true, false, false, false, false, false] rfl rfl (by kernel_rfl) (fun _ _ _ h => h) (Or.inl ⟨by rfl, ?_⟩) ?_ ?_
            rotate_left
            · intro w'
              go_simp
              with_reducible rfl
            rotate_left
            · simp only [Act.put, List.setIfInBounds_toArray, List.set_cons_zero, List.set_cons_succ, i64_w, i32_w]
              rfl
            refine pure_ (i := 15) (N := some 37) (v := ?_) (a' := ?_) #[true, true, true, true, true, true, true, true, true, true, true, true, true, false, true, true, false, false, false, false] rfl rfl (by kernel_rfl) (fun _ _ _ h => h) (Or.inl ⟨by rfl, ?_⟩) ?_ ?_
            rotate_left
            · intro w'
              go_simp
              with_reducible rfl
            rotate_left
            · simp only [Act.put, List.setIfInBounds_toArray, List.set_cons_zero, List.set_cons_succ, i64_w, i32_w]
              rfl
            refine pure_ (i := 16) (N := some 38) (v := ?_) (a' := ?_) #[true, true, true, true, true, true, true, true, true, true, true, true, true, false, true, true, true, false, false, false] rfl rfl (by kernel_rfl) (fun _ _ _ h => h) (Or.inl ⟨by rfl, ?_⟩) ?_ ?_
            rotate_left
            · intro w'
              go_simp
              with_reducible rfl
            rotate_left
            · simp only [Act.put, List.setIfInBounds_toArray, List.set_cons_zero, List.set_cons_succ, i64_w, i32_w]
              rfl
            refine take_ (i := 13) (N := some 35) (v := ?_) (a' := ?_) #[true, true, true, true, true, true, true, true, true, true, true, true, true, true, true, true, true, false, false, false] rfl rfl (by kernel_rfl) (fun _ _ _ h => h) (Or.inl ⟨by rfl, ?_⟩) ⟨s0, s1, s2⟩ ?_ ?_
            rotate_left
            · rintro w' ⟨zs0, zs1, zs2⟩
              go_simp
              with_reducible rfl
            rotate_left
            · simp only [Act.put, List.setIfInBounds_toArray, List.set_cons_zero, List.set_cons_succ, i64_w, i32_w]
              rfl
            refine one_ (i := 17) (N := some 39) #[true, true, true, true, true, true, true, true, true, true, true, true, true, true, true, true, true, true, false, false] rfl rfl (by kernel_rfl) (by decide) (fun K hK => ?_)
            refine value_ (w1 := W2.drew) (v := .bool true) (by rfl) rfl ?_ ?_
            · have hlook := HLOOK.out
              unfold execOp
              go_simp
            refine hK.out _ _ ⟨s0, s1, s2⟩ (fun hHeld => ?_)
            clear hK K s0 s1 s2
            obtain ⟨s0, s1, s2⟩ := hHeld
            refine norm_ (a' := ?_) ?_ ?_
            rotate_left
            · show Act.put _ (some 39) _ = _
              simp only [Act.put, List.setIfInBounds_toArray, List.set_cons_zero, List.set_cons_succ, i64_w, i32_w]
              rfl
            refine pure_ (i := 18) (N := some 40) (v := ?_) (a' := ?_) #[true, true, true, true, true, true, true, true, true, true, true, true, true, true, true, true, true, true, true, false] rfl rfl (by kernel_rfl) (fun _ _ _ h => h) (Or.inl ⟨by rfl, ?_⟩) ?_ ?_
            rotate_left
            · intro w'
              go_simp
              with_reducible rfl
            rotate_left
            · simp only [Act.put, List.setIfInBounds_toArray, List.set_cons_zero, List.set_cons_succ, i64_w, i32_w]
              rfl
            refine pure_ (i := 19) (N := some 41) (v := ?_) (a' := ?_) #[true, true, true, true, true, true, true, true, true, true, true, true, true, true, true, true, true, true, true, true] rfl rfl (by kernel_rfl) (fun _ _ _ h => h) (Or.inl ⟨by rfl, ?_⟩) ?_ ?_
            rotate_left
            · intro w'
              go_simp
              with_reducible rfl
            rotate_left
            · simp only [Act.put, List.setIfInBounds_toArray, List.set_cons_zero, List.set_cons_succ, i64_w, i32_w]
              rfl
            refine done_ (by kernel_rfl) ?_
            go_wp2
            go_roundw
            case measure => simp [intOf]; omega
            case rel => exact ⟨k + 1, by omega, by go_num, BU2.lift (below_drew W2), by
              show _ = true
              rw [range_all_succ, hq.out, HP.out, hxe, Int.toNat_natCast, HCB.out, HC1.out, decide_eq_true hle]; rfl, below_on hb2 (below_drew W2)⟩
        · have hgt : decide (lo < cv + 1) = true := by simp; omega
          go_wp2
          clear hW2
          refine start_ (n := 20) (S := fun w' => w'.cell? ⟨w.heap.size, sn, none⟩ = some (.int .i64 (cv + 1)) ∧ w'.cell? ⟨B, 9, none⟩ = some (.int .i64 lo)) (ds := []) #[false, false, false, false, false, false, false, false, false, false, false, false, false, false, false, false, false, false, false, false] (by kernel_rfl) rfl rfl ⟨m0, c9⟩ (fun hHeld => ?_)
          obtain ⟨s0, s1⟩ := hHeld
          refine pure_ (i := 0) (N := some 22) (v := ?_) (a' := ?_) #[true, false, false, false, false, false, false, false, false, false, false, false, false, false, false, false, false, false, false, false] rfl rfl (by kernel_rfl) (fun _ _ _ h => h) (Or.inl ⟨by rfl, ?_⟩) ?_ ?_
          rotate_left
          · intro w'
            go_simp
            with_reducible rfl
          rotate_left
          · simp only [Act.put, List.setIfInBounds_toArray, List.set_cons_zero, List.set_cons_succ, i64_w, i32_w]
            rfl
          refine pure_ (i := 1) (N := some 23) (v := ?_) (a' := ?_) #[true, true, false, false, false, false, false, false, false, false, false, false, false, false, false, false, false, false, false, false] rfl rfl (by kernel_rfl) (fun _ _ _ h => h) (Or.inl ⟨by rfl, ?_⟩) ?_ ?_
          rotate_left
          · intro w'
            go_simp
            with_reducible rfl
          rotate_left
          · simp only [Act.put, List.setIfInBounds_toArray, List.set_cons_zero, List.set_cons_succ, i64_w, i32_w]
            rfl
          refine pure_ (i := 3) (N := some 25) (v := ?_) (a' := ?_) #[true, true, false, true, false, false, false, false, false, false, false, false, false, false, false, false, false, false, false, false] rfl rfl (by kernel_rfl) (fun _ _ _ h => h) (Or.inl ⟨by rfl, ?_⟩) ?_ ?_
          rotate_left
          · intro w'
            go_simp
            with_reducible rfl
          rotate_left
          · simp only [Act.put, List.setIfInBounds_toArray, List.set_cons_zero, List.set_cons_succ, i64_w, i32_w]
            rfl
          refine pure_ (i := 4) (N := some 26) (v := ?_) (a' := ?_) #[true, true, false, true, true, false, false, false, false, false, false, false, false, false, false, false, false, false, false, false] rfl rfl (by kernel_rfl) (fun _ _ _ h => h) (Or.inl ⟨by rfl, ?_⟩) ?_ ?_
          rotate_left
          · intro w'
            go_simp
            with_reducible rfl
          rotate_left
          · simp only [Act.put, List.setIfInBounds_toArray, List.set_cons_zero, List.set_cons_succ, i64_w, i32_w]
            rfl
          refine pure_ (i := 5) (N := some 27) (v := ?_) (a' := ?_) #[true, true, false, true, true, true, false, false, false, false, false, false, false, false, false, false, false, false, false, false] rfl rfl (by kernel_rfl) (fun _ _ _ h => h) (Or.inl ⟨by rfl, ?_⟩) ?_ ?_
          rotate_left
          · intro w'
            go_simp
            with_reducible rfl
          rotate_left
          · simp only [Act.put, List.setIfInBounds_toArray, List.set_cons_zero, List.set_cons_succ, i64_w, i32_w]
            rfl
          refine pure_ (i := 6) (N := some 28) (v := ?_) (a' := ?_) #[true, true, false, true, true, true, true, false, false, false, false, false, false, false, false, false, false, false, false, false] rfl rfl (by kernel_rfl) (fun _ _ _ h => h) (Or.inl ⟨by rfl, ?_⟩) ?_ ?_
          rotate_left
          · intro w'
            go_simp
            with_reducible rfl
          rotate_left
          · simp only [Act.put, List.setIfInBounds_toArray, List.set_cons_zero, List.set_cons_succ, i64_w, i32_w]
            rfl
          refine take_ (i := 2) (N := some 24) (v := ?_) (a' := ?_) #[true, true, true, true, true, true, true, false, false, false, false, false, false, false, false, false, false, false, false, false] rfl rfl (by kernel_rfl) (fun _ _ _ h => h) (Or.inl ⟨by rfl, ?_⟩) ⟨s0, s1⟩ ?_ ?_
          rotate_left
          · rintro w' ⟨zs0, zs1⟩
            go_simp
            with_reducible rfl
          rotate_left
          · simp only [Act.put, List.setIfInBounds_toArray, List.set_cons_zero, List.set_cons_succ, i64_w, i32_w]
            rfl
          refine take_ (i := 7) (N := some 29) (v := ?_) (a' := ?_) #[true, true, true, true, true, true, true, true, false, false, false, false, false, false, false, false, false, false, false, false] rfl rfl (by kernel_rfl) (fun _ _ _ h => h) (Or.inl ⟨by rfl, ?_⟩) ⟨s0, s1⟩ ?_ ?_
          rotate_left
          · rintro w' ⟨zs0, zs1⟩
            go_simp
            with_reducible rfl
          rotate_left
          · simp only [Act.put, List.setIfInBounds_toArray, List.set_cons_zero, List.set_cons_succ, i64_w, i32_w]
            rfl
          refine pure_ (i := 8) (N := some 30) (v := ?_) (a' := ?_) #[true, true, true, true, true, true, true, true, true, false, false, false, false, false, false, false, false, false, false, false] rfl rfl (by kernel_rfl) (fun _ _ _ h => h) (Or.inl ⟨by rfl, ?_⟩) ?_ ?_
          rotate_left
          · intro w'
            go_simp
            with_reducible rfl
          rotate_left
          · simp only [Act.put, List.setIfInBounds_toArray, List.set_cons_zero, List.set_cons_succ, i64_w, i32_w]
            rfl
          refine pure_ (i := 9) (N := some 31) (v := ?_) (a' := ?_) #[true, true, true, true, true, true, true, true, true, true, false, false, false, false, false, false, false, false, false, false] rfl rfl (by kernel_rfl) (fun _ _ _ h => h) (Or.inl ⟨by rfl, ?_⟩) ?_ ?_
          rotate_left
          · intro w'
            go_simp
            with_reducible rfl
          rotate_left
          · simp only [Act.put, List.setIfInBounds_toArray, List.set_cons_zero, List.set_cons_succ, i64_w, i32_w]
            rfl
          refine pure_ (i := 10) (N := some 32) (v := undef) (a' := ?_) #[true, true, true, true, true, true, true, true, true, true, true, false, false, false, false, false, false, false, false, false] rfl rfl (by kernel_rfl) (fun _ _ _ h => h) (Or.inr ⟨by rfl, rfl⟩) ?_ ?_
          rotate_left
          · simp only [Act.put, List.setIfInBounds_toArray, List.set_cons_zero, List.set_cons_succ, i64_w, i32_w]
            rfl
          refine pure_ (i := 11) (N := some 33) (v := undef) (a' := ?_) #[true, true, true, true, true, true, true, true, true, true, true, true, false, false, false, false, false, false, false, false] rfl rfl (by kernel_rfl) (fun _ _ _ h => h) (Or.inr ⟨by rfl, rfl⟩) ?_ ?_
          rotate_left
          · simp only [Act.put, List.setIfInBounds_toArray, List.set_cons_zero, List.set_cons_succ, i64_w, i32_w]
            rfl
          refine pure_ (i := 12) (N := some 34) (v := undef) (a' := ?_) #[true, true, true, true, true, true, true, true, true, true, true, true, true, false, false, false, false, false, false, false] rfl rfl (by kernel_rfl) (fun _ _ _ h => h) (Or.inr ⟨by rfl, rfl⟩) ?_ ?_
          rotate_left
          · simp only [Act.put, List.setIfInBounds_toArray, List.set_cons_zero, List.set_cons_succ, i64_w, i32_w]
            rfl
          refine pure_ (i := 13) (N := some 35) (v := undef) (a' := ?_) #[true, true, true, true, true, true, true, true, true, true, true, true, true, true, false, false, false, false, false, false] rfl rfl (by kernel_rfl) (fun _ _ _ h => h) (Or.inr ⟨by rfl, rfl⟩) ?_ ?_
          rotate_left
          · simp only [Act.put, List.setIfInBounds_toArray, List.set_cons_zero, List.set_cons_succ, i64_w, i32_w]
            rfl
          refine pure_ (i := 14) (N := some 36) (v := undef) (a' := ?_) #[true, true, true, true, true, true, true, true, true, true, true, true, true, true, true, false, false, false, false, false] rfl rfl (by kernel_rfl) (fun _ _ _ h => h) (Or.inr ⟨by rfl, rfl⟩) ?_ ?_
          rotate_left
          · simp only [Act.put, List.setIfInBounds_toArray, List.set_cons_zero, List.set_cons_succ, i64_w, i32_w]
            rfl
          refine pure_ (i := 15) (N := some 37) (v := undef) (a' := ?_) #[true, true, true, true, true, true, true, true, true, true, true, true, true, true, true, true, false, false, false, false] rfl rfl (by kernel_rfl) (fun _ _ _ h => h) (Or.inr ⟨by rfl, rfl⟩) ?_ ?_
          rotate_left
          · simp only [Act.put, List.setIfInBounds_toArray, List.set_cons_zero, List.set_cons_succ, i64_w, i32_w]
            rfl
          refine pure_ (i := 16) (N := some 38) (v := undef) (a' := ?_) #[true, true, true, true, true, true, true, true, true, true, true, true, true, true, true, true, true, false, false, false] rfl rfl (by kernel_rfl) (fun _ _ _ h => h) (Or.inr ⟨by rfl, rfl⟩) ?_ ?_
          rotate_left
          · simp only [Act.put, List.setIfInBounds_toArray, List.set_cons_zero, List.set_cons_succ, i64_w, i32_w]
            rfl
          refine pure_ (i := 17) (N := some 39) (v := undef) (a' := ?_) #[true, true, true, true, true, true, true, true, true, true, true, true, true, true, true, true, true, true, false, false] rfl rfl (by kernel_rfl) (fun _ _ _ h => h) (Or.inr ⟨by rfl, rfl⟩) ?_ ?_
          rotate_left
          · simp only [Act.put, List.setIfInBounds_toArray, List.set_cons_zero, List.set_cons_succ, i64_w, i32_w]
            rfl
          refine pure_ (i := 18) (N := some 40) (v := undef) (a' := ?_) #[true, true, true, true, true, true, true, true, true, true, true, true, true, true, true, true, true, true, true, false] rfl rfl (by kernel_rfl) (fun _ _ _ h => h) (Or.inr ⟨by rfl, rfl⟩) ?_ ?_
          rotate_left
          · simp only [Act.put, List.setIfInBounds_toArray, List.set_cons_zero, List.set_cons_succ, i64_w, i32_w]
            rfl
          refine pure_ (i := 19) (N := some 41) (v := ?_) (a' := ?_) #[true, true, true, true, true, true, true, true, true, true, true, true, true, true, true, true, true, true, true, true] rfl rfl (by kernel_rfl) (fun _ _ _ h => h) (Or.inl ⟨by rfl, ?_⟩) ?_ ?_
          rotate_left
          · intro w'
            go_simp
            with_reducible rfl
          rotate_left
          · simp only [Act.put, List.setIfInBounds_toArray, List.set_cons_zero, List.set_cons_succ, i64_w, i32_w]
            rfl
          refine done_ (by kernel_rfl) ?_
          go_wp2
          go_ret
          refine ⟨ret_bool ?_, below_on hb2 (below_drew W2)⟩
          rw [HE.out]
          symm
          exact range_all_of hlt (by rw [HP.out, hxe, HC1.out, decide_eq_false (show ¬ cv + 1 ≤ lo by omega)]; rfl)
    · obtain rfl : k = pn := by omega
      go_wp2
      go_ret
      exact ⟨ret_bool (by rw [HE.out, hq.out]), hb⟩
end Go.Proofs.YtenfnakhijobkaaGreat
