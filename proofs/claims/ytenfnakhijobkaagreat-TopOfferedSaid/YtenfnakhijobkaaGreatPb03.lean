/- The reference's truths of a market. Conditions: the market reads as it does and has no fault. Arrays of eleven numbers, and of four, compared. Conditions: none. Maps whose keys are two numbers: a look-up, a store. Conditions: the block holds such a map. In a round of a range over a function, a region that draws its order is walked as everywhere. Conditions: it holds no defer statement; what follows lets no run out of bounds. The program's small functions of layer 6. Conditions: the loft reads as it does. Copies of lists, and the ranges of a loft. Conditions: the lists read as they do. The ranges of a loft. Conditions: the loft reads as it does; at most six days and five cakes. The program's water that is left. Conditions: the loft reads as it does and has no fault; the numbers are in its ranges. The library's Index and Contains of numbers. Conditions: the list reads as it does. The program's right weights. Conditions: the loft reads as it does and has no fault; the numbers are in its ranges. The program's least of two numbers, wider ranges, placements. Conditions: the lists read as they do. The program's placements. Conditions: the loft reads as it does; at most three shelves, at most five cakes, no room below 0. The program's wet cakes, and what is asked ahead of a question. Conditions: the lists read as they do. -/
import Derived.Test.YtenfnakhijobkaaGreatPb01
import Derived.Test.YtenfnakhijobkaaGreatPb02
import Derived.ChangeKeysEq
import Derived.Laws.StructEq
import Derived.RangeFuncLeaves
import Derived.RangeFuncCalls
import Derived.OrdersIn
import Derived.Lib.SliceRun
import Derived.Shelf.SlicesE.Clone
set_option linter.unusedVariables false
set_option linter.unusedSimpArgs false
namespace Go.Proofs.YtenfnakhijobkaaGreat
open Go.RowKit Go.Proofs.YtenfnakhijobkaaGreatW.PrintLast
theorem info25 : (Tryz.prog.info? 25).map (fun i => (i.zero, i.size, i.bytes)) = some (some (.slice none 0 0), 1, 24) := by kernel_rfl
/-- A list of lists of numbers is returned, in memory of its own. -/
def RetLists (w : World) (ts : List (List Int)) (e : Ending) (w' : World) : Prop := ∃ s : Sl, e = .returned (.slice s.a s.n s.c) ∧ Fr (fun W => Rd listR 1 W s ts) w.heap.size w' ∧ Below w.heap.size w w'
set_option maxHeartbeats 4000000 in
set_option maxRecDepth 100000 in
theorem Truths10_any (v : MktV) (m : MktD) (hm : MOk m) (w : World) (h : RdMkt w v m) :
    Calls Tryz.prog 55 #[.agg v.cs] w (RetLists w (pricesR m)) := by
  obtain ⟨i0, hi0, hz0, hz1, hz2⟩ := info_parts info25
  have HI := Lib.hid hi0
  have HZ0 := Lib.hid hz0
  have HZ1 := Lib.hid hz1
  have HZ2 := Lib.hid hz2
  clear hi0 hz0 hz1 hz2
  have hmp := hm.manyPos
  obtain ⟨M, hM⟩ : ∃ M : Nat, capMul 3000 m.sizes = M := ⟨(capMul 3000 m.sizes).toNat, by omega⟩
  have HM := Lib.hid hM
  have hM1 : M ≤ 3000 := by omega
  clear hM hmp
  go_enter Tryz.func55, Tryz.ntmps55
  go_wp2_with (fail)
  obtain ⟨W0, hNW0, BX, hW0, hzW0⟩ := Box.named w (MktV.cs v) 33
  rw [hNW0]
  clear hNW0
  go_loopw [3, 4] (fun r i wr => ∃ k : Nat, ∃ vv : Value, k ≤ M ∧ i = .int .i64 k ∧ vv = r ∧ Acc listR (fun i => i < W0.heap.size) 25 1 W0.heap.size wr vv (psR m k) ∧ Below W0.heap.size W0 wr) (fun _ i _ => M - (intOf i).toNat)
  case atStart => exact ⟨0, _, Nat.zero_le _, rfl, rfl, Acc.nil _, Below.refl _ _⟩
  case round =>
    obtain ⟨k, vv, hk, rfl, rfl, hacc, hb⟩ := hrel
    have hw := below_on hW0 hb
    have c0 := (BX.lift hb).cell 0 (.int .i64 v.loft.last) rfl
    have c1 := (BX.lift hb).cell 1 (.slice v.loft.air.a v.loft.air.n v.loft.air.c) rfl
    have c2 := (BX.lift hb).cell 2 (.slice v.loft.shelves.a v.loft.shelves.n v.loft.shelves.c) rfl
    have c3 := (BX.lift hb).cell 3 (.slice v.loft.cakes.a v.loft.cakes.n v.loft.cakes.c) rfl
    have c4 := (BX.lift hb).cell 4 (.slice v.loft.put.a v.loft.put.n v.loft.put.c) rfl
    have c5 := (BX.lift hb).cell 5 (.slice v.loft.weights.a v.loft.weights.n v.loft.weights.c) rfl
    have c6 := (BX.lift hb).cell 6 (.slice v.sales.a v.sales.n v.sales.c) rfl
    have c7 := (BX.lift hb).cell 7 (.slice v.chests.a v.chests.n v.chests.c) rfl
    have c8 := (BX.lift hb).cell 8 (.int .i64 v.step) rfl
    have c9 := (BX.lift hb).cell 9 (.int .i64 v.lots) rfl
    have c10 := (BX.lift hb).cell 10 (.slice v.notes.a v.notes.n v.notes.c) rfl
    have hlt0 := (BX.lift hb).lt
    by_cases hlt : k < M
    · have hk3 : k ≤ 3000 := by omega
      have hlen := psR_len m k
      have hml : (psR m k).length + 1 ≤ maxLen := by unfold maxLen; omega
      cases hok : isTruth m (nthP m k)
      · have HOK := Lib.hid hok
        go_wp2_with (first | (go_at_call 83; refine (call_val (Many10_any v m _ (h.below hw) hm.prices) (u := .int .i64 M) (by rw [HM.out])).mono ?_; rintro e w1 ⟨rfl, hb1⟩; obtain ⟨hbc1, hbf1⟩ := bcell hb1; have hlt1 := ((BX.lift hb).lift hb1).lt) | (go_at_call 103; refine (Nth10_any v m hm _ (h.below (hw.trans (hb1.mono hw.size))) k hk3).mono ?_; rintro e w2 ⟨⟨ta, tn, tc⟩, rfl, hfr, hb2⟩; obtain ⟨hbc2, hbf2⟩ := bcell hb2; have hlt2 := (((BX.lift hb).lift hb1).lift hb2).lt) | (go_at_call 77; refine (call_b (IsTruth10_any v m hm ⟨ta, tn, tc⟩ (nthP m k) _ (h.below ((hw.trans (hb1.mono hw.size)).trans (hb2.mono (hw.trans (hb1.mono hw.size)).size))) hfr.now) hok).mono ?_; rintro e w3 ⟨rfl, hb3⟩))
        go_roundw
        case measure => simp [intOf]; omega
        case rel =>
          have e : psR m (k + 1) = psR m k := by rw [psR_succ, if_neg (by rw [HOK.out]; simp)]; simp
          refine ⟨k + 1, _, by omega, by go_num, rfl, ?_, below_on (below_on (below_on hb hb1) hb2) hb3⟩
          rw [e]
          exact hacc.below (below_on (below_on hb1 hb2) hb3)
      · have HOK := Lib.hid hok
        go_wp2_with (first | (go_at_call 83; refine (call_val (Many10_any v m _ (h.below hw) hm.prices) (u := .int .i64 M) (by rw [HM.out])).mono ?_; rintro e w1 ⟨rfl, hb1⟩; obtain ⟨hbc1, hbf1⟩ := bcell hb1; have hlt1 := ((BX.lift hb).lift hb1).lt) | (go_at_call 103; refine (Nth10_any v m hm _ (h.below (hw.trans (hb1.mono hw.size))) k hk3).mono ?_; rintro e w2 ⟨⟨ta, tn, tc⟩, rfl, hfr, hb2⟩; obtain ⟨hbc2, hbf2⟩ := bcell hb2; have hlt2 := (((BX.lift hb).lift hb1).lift hb2).lt) | (go_at_call 77; refine (call_b (IsTruth10_any v m hm ⟨ta, tn, tc⟩ (nthP m k) _ (h.below ((hw.trans (hb1.mono hw.size)).trans (hb2.mono (hw.trans (hb1.mono hw.size)).size))) hfr.now) hok).mono ?_; rintro e w3 ⟨rfl, hb3⟩; obtain ⟨rows, r1, r2, r3, r4⟩ := (hacc.below (below_on (below_on hb1 hb2) hb3)).ex; have hsz3 : W0.heap.size ≤ w3.heap.size := (below_on (below_on (below_on hb hb1) hb2) hb3).size) | (at_builtin; refine wpList_append_lies _ rfl _ _ _ rfl W0.heap.size 25 i0 _ 1 24 Tryz.underlying59 HI.out HZ0.out HZ1.out HZ2.out rfl (by omega) vv (psR m k).length rows.flatten rfl (r3.alloc _) ⟨w3.heap.size, 0, none⟩ 1 1 [.slice ta tn tc] rfl rfl (World.news_of_block (cs := #[.slice ta tn tc]) (t := 25) (fr := (0, 0)) (heap_alloc_new w3 _)) (by simp [Value.oneCell']) (by omega) hml (by omega) (by simp; omega) _ rfl ?_; intro g cap w5 hown5 hgrow hat hlt5))
        go_roundw
        case measure => simp [intOf]; omega
        case rel =>
          have hgr : w3.grownBy w5 vv.ownBlock := World.grownBy.trans (World.grownBy_alloc w3 _ _) hgrow
          have hTf : Fr (fun W => listR W (nthP m k) [.slice ta tn tc]) w1.heap.size w3 := (hfr.below hb3).mono (Nat.le_refl _) (fun W hW => ⟨⟨ta, tn, tc⟩, rfl, hW⟩)
          have hoff := hTf.off (S := fun i => i < W0.heap.size ∨ some i = vv.ownBlock) (fun i hi => Or.inl (by
            rcases hi with hi | hi
            · have := hb.size
              have := hb1.size
              omega
            · have := (hacc.lt i hi.symm).2
              have := hb1.size
              omega))
          have hsn := Acc.snoc (S0 := fun i => i < W0.heap.size) r1 r2 r4 (x := nthP m k) (cs := [.slice ta tn tc]) rfl hown5 hgr (hat.imp id (fun e => by rw [e]; simp)) hoff
          have e : psR m (k + 1) = psR m k ++ [nthP m k] := by rw [psR_succ, if_pos HOK.out]
          refine ⟨k + 1, _, by omega, by go_num, rfl, ?_, (below_on (below_on (below_on (below_on hb hb1) hb2) hb3) (below_box _ _)).grown hgrow (by simp; omega) (fun b hbb => (hacc.lt b hbb).1)⟩
          rw [e]
          exact hsn
    · obtain rfl : M = k := by omega
      have hlen := psR_len m M
      obtain ⟨⟨sa, sn, sc⟩, hvv, hsn, hfr⟩ := hacc.fr (Nat.le_refl _) (by omega)
      simp only at hvv
      have HSN := Lib.hid hsn
      clear hsn
      subst hvv
      have HT : Hid (pricesR m = psR m M) := by
        show _ = _
        unfold pricesR
        rw [HM.out]; rfl
      go_wp2_with (go_at_call 83; refine (call_val (Many10_any v m _ (h.below hw) hm.prices) (u := .int .i64 M) (by rw [HM.out])).mono ?_; rintro e w1 ⟨rfl, hb1⟩)
      go_ret
      rw [HT.out]
      exact ⟨⟨sa, sn, sc⟩, rfl, (hfr.below hb1).mono hW0.size (fun _ h => h), hw.trans (hb1.mono hw.size)⟩
end Go.Proofs.YtenfnakhijobkaaGreat
namespace Go.Proofs.YtenfnakhijobkaaGreat
open Go.RowKit

theorem eqItems_ints (d : Nat) (xs ys : List Int) (w : World) : ∀ (is : List Nat), (∀ i ∈ is, i < xs.length ∧ i < ys.length) →
    (Op.eqItems (d + 1) 3 1 (xs.map (Value.int .i64)).toArray (ys.map (Value.int .i64)).toArray is).run Tryz.prog w = .ok (is.all fun i => xs.getD i 0 == ys.getD i 0) w
  | [], _ => rfl
  | i :: is, h => by
    have u3 := Tryz.underlying3
    have a3 := Tryz.isAgg3
    have z3 := Tryz.sizeOf3
    have h1 := h i (by simp)
    have ih := eqItems_ints d xs ys w is (fun j hj => h j (by simp [hj]))
    have e1 : (xs.map (Value.int .i64)).toArray[i]? = some (.int .i64 (xs.getD i 0)) := by simp [h1.1]
    have e2 : (ys.map (Value.int .i64)).toArray[i]? = some (.int .i64 (ys.getD i 0)) := by simp [h1.2]
    have hp : Tryz.prog.plainKey 3 = true := by kernel_rfl
    simp only [Op.eqItems, Nat.mul_one, Sem.run_bind, run_part_plain w hp e1, run_part_plain w hp e2, Result.andThen_ok, run_equalIn_int w d 3 .i64 .i64 _ _ u3, Sem.run_ite, Sem.run_pure, ih, List.all_cons]
    cases hb : (xs.getD i 0 == ys.getD i 0) <;> simp [hb]
theorem arr_eqN {T n : Nat} (d : Nat) (hu : Tryz.prog.underlying T = some (.array n 3)) (xs ys : List Int) (hx : xs.length = n) (hy : ys.length = n) (w : World) :
    (Op.equalIn (d + 1 + 1) T (.agg (xs.map (Value.int .i64)).toArray) (.agg (ys.map (Value.int .i64)).toArray)).run Tryz.prog w = .ok (decide (xs = ys)) w := by
  obtain ⟨i0, hi, _⟩ := info_parts info3
  have hc : Tryz.prog.cellsOf 3 = 1 := by kernel_rfl
  rw [run_equalIn_array w _ _ _ hu hi, hc, eqItems_ints d xs ys w (List.range n) (fun i h => by have := List.mem_range.1 h; omega)]
  refine congrArg (fun b => Result.ok b w) ?_
  rw [Bool.eq_iff_iff]
  simp only [List.all_eq_true, List.mem_range, beq_iff_eq, decide_eq_true_eq]
  constructor
  · intro h
    refine List.ext_getElem? fun i => ?_
    by_cases hi : i < n
    · have := h i hi
      rw [List.getD_eq_getElem?_getD, List.getD_eq_getElem?_getD, List.getElem?_eq_getElem (by omega), List.getElem?_eq_getElem (by omega)] at this
      rw [List.getElem?_eq_getElem (by omega), List.getElem?_eq_getElem (by omega)]
      simpa using this
    · rw [List.getElem?_eq_none (by omega), List.getElem?_eq_none (by omega)]
  · rintro rfl i _; rfl
theorem arr_eq {T n : Nat} (hu : Tryz.prog.underlying T = some (.array n 3)) (xs ys : List Int) (hx : xs.length = n) (hy : ys.length = n) (w : World) :
    (Op.equalIn 10000 T (.agg (xs.map (Value.int .i64)).toArray) (.agg (ys.map (Value.int .i64)).toArray)).run Tryz.prog w = .ok (decide (xs = ys)) w := arr_eqN 9998 hu xs ys hx hy w
end Go.Proofs.YtenfnakhijobkaaGreat
namespace Go.Proofs.YtenfnakhijobkaaGreat
open Go.RowKit

theorem spot_eq (a b c d : Int) (w : World) : (Op.equal 194 (.agg #[.int .i64 a, .int .i64 b]) (.agg #[.int .i64 c, .int .i64 d])).run Tryz.prog w = .ok (a == c && b == d) w := by
  have u3 := Tryz.underlying3
  have a3 := Tryz.isAgg3
  have z3 := Tryz.sizeOf3
  have hS : Tryz.prog.underlying 194 = some (.struct (Tryz.prog.fieldsOf 194)) := by kernel_rfl
  have hp : Tryz.prog.stoodInHeld 194 = false := by kernel_rfl
  unfold Op.equal Op.maxDepth
  rw [show (10000 : Nat) = 9999 + 1 from rfl, run_equalIn_agg w 9999 194 _ _ hS hp]
  simp only [Program.fieldsOf, Tryz.underlying194]
  go_simp
  by_cases h1 : a = c <;> by_cases h2 : b = d <;> simp [h1, h2]
abbrev spotV (a b : Int) : Value := .agg #[.int .i64 a, .int .i64 b]
def SpotKeys (es : List MapEntry) : Prop := ∀ e ∈ es, ∃ c d, e.key = spotV c d
theorem findAsking_spot (a b : Int) (w : World) : ∀ (es : List MapEntry) (i : Nat), SpotKeys es →
    (∃ j e, es[j]? = some e ∧ e.key = spotV a b ∧ (Instr.findAsking 194 (spotV a b) es i).run Tryz.prog w = .ok (some (i + j, e.val)) w) ∨
    ((∀ e ∈ es, e.key ≠ spotV a b) ∧ (Instr.findAsking 194 (spotV a b) es i).run Tryz.prog w = .ok none w)
  | [], i, _ => Or.inr ⟨by simp, rfl⟩
  | e :: es, i, h => by
    obtain ⟨c, d, hk⟩ := h e (by simp)
    have hrun : (Instr.findAsking 194 (spotV a b) (e :: es) i).run Tryz.prog w = if (a == c && b == d) = true then .ok (some (i, e.val)) w else (Instr.findAsking 194 (spotV a b) es (i + 1)).run Tryz.prog w := by
      simp only [Instr.findAsking, Sem.run_bind, hk, spot_eq, Result.andThen_ok, Sem.run_ite, Sem.run_pure]
    by_cases hac : (a == c && b == d) = true
    · rw [if_pos hac] at hrun
      simp at hac
      exact Or.inl ⟨0, e, rfl, by rw [hk, hac.1, hac.2], by simpa using hrun⟩
    · rw [if_neg hac] at hrun
      have hne : e.key ≠ spotV a b := by
        rw [hk]
        intro e2
        simp at e2
        apply hac
        simp [e2.1, e2.2]
      rcases findAsking_spot a b w es (i + 1) (fun e he => h e (by simp [he])) with ⟨j, e', hj, hk', hr⟩ | ⟨hno, hr⟩
      · exact Or.inl ⟨j + 1, e', by simpa using hj, hk', by rw [hrun, hr, show i + 1 + j = i + (j + 1) from by omega]⟩
      · exact Or.inr ⟨fun e' he' => by
          rcases List.mem_cons.1 he' with rfl | he'
          · exact hne
          · exact hno e' he', by rw [hrun, hr]⟩
theorem findKey_spot (a b : Int) (w : World) (es : List MapEntry) (h : SpotKeys es) :
    (∃ j e, es[j]? = some e ∧ e.key = spotV a b ∧ (Instr.findKey 194 (spotV a b) es).run Tryz.prog w = .ok (some (j, e.val)) w) ∨
    ((∀ e ∈ es, e.key ≠ spotV a b) ∧ (Instr.findKey 194 (spotV a b) es).run Tryz.prog w = .ok none w) := by
  have hu : ∀ w, (underlying 194).run Tryz.prog w = .ok _ w := run_underlying Tryz.underlying194
  cases es with
  | nil => exact Or.inr ⟨by simp, by simp [Instr.findKey, hu, Instr.findNow]⟩
  | cons e es =>
    have hrun : (Instr.findKey 194 (spotV a b) (e :: es)).run Tryz.prog w = (Instr.findAsking 194 (spotV a b) (e :: es) 0).run Tryz.prog w := by
      simp [Instr.findKey, hu, Instr.findNow, Instr.sameNow]
    have := findAsking_spot a b w (e :: es) 0 h
    simp only [Nat.zero_add] at this
    rw [hrun]
    exact this
theorem checkKey_int (em : Bool) (n : Nat) (a : Int) (w : World) : (Instr.checkKey em (n + 1) 3 (.int .i64 a)).run Tryz.prog w = .ok () w := by
  simp [Instr.checkKey, run_underlying Tryz.underlying3]
theorem checkKey_spotN (a b : Int) (em : Bool) (n : Nat) (w : World) : (Instr.checkKey em (n + 1 + 1) 194 (spotV a b)).run Tryz.prog w = .ok () w := by
  have u3 := Tryz.underlying3
  have a3 := Tryz.isAgg3
  have z3 := Tryz.sizeOf3
  have hu : ∀ w, (underlying 194).run Tryz.prog w = .ok _ w := run_underlying Tryz.underlying194
  have hi := checkKey_int em n
  rw [Instr.checkKey]
  simp only [Sem.run_bind, hu, Result.andThen_ok]
  go_simp
theorem checkKey_spot (a b : Int) (em : Bool) (w : World) : (Instr.checkKey em 10000 194 (spotV a b)).run Tryz.prog w = .ok () w := checkKey_spotN a b em 9998 w
theorem lookup_spot (a b : Int) (r : Nat) (es : Array MapEntry) (clock : Nat) (w : World) (hr : w.heap[r]? = some (.map es clock)) (h : SpotKeys es.toList) :
    (∃ (j : Nat) (e : MapEntry), es.toList[j]? = some e ∧ e.key = spotV a b ∧ (Instr.lookup 220 (.map (some r)) (spotV a b) true).run Tryz.prog w = .ok (.tuple #[e.val, .bool true]) w) ∨
    ((∀ e ∈ es.toList, e.key ≠ spotV a b) ∧ (Instr.lookup 220 (.map (some r)) (spotV a b) true).run Tryz.prog w = .ok (.tuple #[.int .i64 0, .bool false]) w) := by
  have hu : ∀ w, (underlying 220).run Tryz.prog w = .ok _ w := run_underlying Tryz.underlying220
  have hz : ∀ w, (zeroValue 3).run Tryz.prog w = .ok (.int .i64 0) w := Tryz.zeroValue3
  have hg : (getObj r).run Tryz.prog w = .ok (.map es clock) w := by simp [getObj, Sem.run, hr]
  rcases findKey_spot a b w es.toList h with ⟨j, e, hj, hk, hrun⟩ | ⟨hno, hrun⟩
  · refine Or.inl ⟨j, e, hj, hk, ?_⟩
    unfold Instr.lookup
    simp [hu, hg, checkKey_spot, hrun]
  · refine Or.inr ⟨hno, ?_⟩
    unfold Instr.lookup
    simp [hu, hg, checkKey_spot, hrun, hz]
theorem update_spot (a b : Int) (v : Value) (r : Nat) (es : Array MapEntry) (clock : Nat) (w : World) (hr : w.heap[r]? = some (.map es clock)) (h : SpotKeys es.toList) (hno : ∀ e ∈ es.toList, e.key ≠ spotV a b) :
    (Instr.mapUpdate 220 (.map (some r)) (spotV a b) v).run Tryz.prog w = .ok () (w.putObj r (.map (es.push { key := spotV a b, val := v, born := clock }) (clock + 1))) := by
  have hu : ∀ w, (underlying 220).run Tryz.prog w = .ok _ w := run_underlying Tryz.underlying220
  have hg : (getObj r).run Tryz.prog w = .ok (.map es clock) w := by simp [getObj, Sem.run, hr]
  rcases findKey_spot a b w es.toList h with ⟨j, e, hj, hk, hrun⟩ | ⟨_, hrun⟩
  · exact absurd hk (hno e (List.mem_of_getElem? hj))
  · unfold Instr.mapUpdate
    simp [hu, hg, checkKey_spot, hrun]
    simp [setObj, Sem.run, hr]
    rfl
end Go.Proofs.YtenfnakhijobkaaGreat
namespace Go.Proofs.YtenfnakhijobkaaGreat
open Go.RowKit Go.Proofs.YtenfnakhijobkaaGreatW.PrintLast
variable {P : Program} {r n : Nat}
def noDefer (o : Oper) : Bool := match o.op with
  | .defer _ => false
  | _ => true
theorem noDefer_ne {o : Oper} (h : noDefer o = true) : ∀ c, o.op ≠ .defer c := fun c e => by simp [noDefer, e] at h
theorem oper_round {o : Oper} {a : Act} {w : World} {K K' : Act → World → Prop} {Q : Exit → Act → World → Prop} (hnd : noDefer o = true) (hK : ∀ a w, K a w → K' a w) (h : o.wp P a w K Q) : o.wpIn (Fence.wide.inRound r) n P a w K' Q := by
  refine ⟨fun _ _ => trivial, ?_⟩
  rw [Oper.semAt_eq _ _ _ (noDefer_ne hnd)]
  unfold Oper.wp at h
  generalize (execOp a.eval o).run P w = x at h ⊢
  cases x with
  | ok y w' =>
    cases y <;> simp only [Oper.upon, Oper.uponIn] at h ⊢ <;>
      first
        | exact hK _ _ h
        | exact h.elim
        | exact ⟨fun e => by simp [Fence.wide] at e, CallsIn.inRound r (callsIn_wide.2 (h.mono fun e w'' he => by cases e <;> first | exact hK _ _ he | exact he))⟩
        | exact ⟨fun e => by simp [Fence.wide] at e, fun c cs _ => let ⟨v, w'', q, s⟩ := h c cs; ⟨v, w'', hK _ _ q, stepsIn_wide.2 s⟩⟩
  | halt y w' => cases y <;> simp only [Oper.upon, Oper.uponIn] at h ⊢ <;> exact h
theorem wpOp_round {ops : Array Oper} {i : Nat} {a : Act} {w : World} {K K' : Act → World → Prop} {Q : Exit → Act → World → Prop} (hQ : ¬ LetsOut Q) (hnd : ops.all noDefer = true) (hK : ∀ a w, K a w → K' a w) (h : wpOp P ops Q i K a w) : wpOpIn (Fence.wide.inRound r) n P ops Q i K' a w := by
  unfold wpOp at h
  unfold wpOpIn
  cases ho : ops[i]? with
  | none => simp only [ho] at h ⊢; exact hK _ _ h
  | some o =>
    simp only [ho] at h ⊢
    have hno : noDefer o = true := by
      obtain ⟨hlt, rfl⟩ := Array.getElem?_eq_some_iff.1 ho
      exact Array.all_eq_true.1 hnd i hlt
    split
    · rename_i hw
      simp only [hw, if_true] at h
      rcases h with h | ⟨_, h⟩
      · exact oper_round hno hK h
      · exact (hQ h).elim
    · rename_i hw
      simp only [hw, if_false] at h
      exact ⟨fun _ _ => trivial, hK _ _ h⟩
theorem wpAny_round {ops : Array Oper} {md : Region.Mode} {Q : Exit → Act → World → Prop} (hQ : ¬ LetsOut Q) (hnd : ops.all noDefer = true) : ∀ (fuel : Nat) (listed : Array Bool) (a : Act) (w : World), wpAny P md ops Q fuel listed a w → wpAnyIn (Fence.wide.inRound r) n P md ops Q fuel listed a w
  | 0, _, _, _, h => h
  | fuel + 1, _, _, _, h => ⟨h.1, fun i hi => wpOp_round hQ hnd (fun a w => wpAny_round hQ hnd fuel _ a w) (h.2 i hi)⟩
/-- A drawn region in a round: what serves everywhere serves there. -/
theorem round_any {id : Nat} {ops : Array Oper} {Q : Exit → Act → World → Prop} {a : Act} {w : World} (hQ : ¬ LetsOut Q) (hm : P.follows .mixedOrders = true) (hnd : ops.all noDefer = true)
    (h : wpAny P .any ops Q ops.size (Array.replicate ops.size false) a { w with drawn := w.drawn + 1 }) : (Code.region id ops true).wpIn (Fence.wide.inRound r) n P Q a w :=
  wpIn_region_any hm (wpAny_round hQ hnd _ _ _ _ h)
theorem round_after {id : Nat} {Q : Exit → Act → World → Prop} {a : Act} {w : World} {l : List Oper} (hQ : ¬ LetsOut Q) (hm : P.follows .mixedOrders = true) (hnd : l.toArray.all noDefer = true) (hB : Region.lexB .any l.toArray = true)
    (h : wpQuiet P l.toArray (fun w' => ∃ x : After w, w' = At x) (fun a' => ∀ w', Below w.heap.size w w' → Q .normal a' w') l a) : (Code.region id l.toArray true).wpIn (Fence.wide.inRound r) n P Q a w := by
  have e : (fun a' => ∀ w', (∃ x : After w, w' = At x) → Q .normal a' w') = (fun a' => ∀ w', Below w.heap.size w w' → Q .normal a' w') := by
    funext a'
    apply propext
    exact ⟨fun h w' hb => h w' ⟨⟨w', hb⟩, rfl⟩, fun h w' ⟨x, hx⟩ => hx ▸ h _ x.prop⟩
  rw [← e] at h
  have hB' := hB
  simp only [Region.lexB, Bool.and_eq_true] at hB'
  refine round_any hQ hm hnd (wpAny_of_quiet (Q := fun a' => ∀ w', (∃ x : After w, w' = At x) → Q .normal a' w') (fun _ w' hw' h => h w' hw') _ _ _ _ ⟨⟨w.drew, (Below.refl _ _).drew⟩, rfl⟩ ?_)
  have := wpAnyQ_lex (C := fun w' => ∃ x : After w, w' = At x) (md := .any) hB'.1 l.toArray.toList 0 (Array.replicate l.toArray.size false) a (by simp) (by simpa using hB'.2) (by simpa using h)
  simpa using this
theorem round_start {ops : Array Oper} {Q : Exit → Act → World → Prop} {S : World → Prop} {ds : List Nat} {id k : Nat} {a : Act} {w : World} (l : Array Bool) (hQ : ¬ LetsOut Q) (hm : P.follows .mixedOrders = true) (hnd : ops.all noDefer = true) (hn : ops.size = k) (hl : Array.replicate k false = l) (hS : S w.drew)
    (h : S w.drew → wpAnyLast P .any ops Q S ds k l a w.drew) : (Code.region id ops true).wpIn (Fence.wide.inRound r) n P Q a w := by
  subst hn
  subst hl
  exact round_any hQ hm hnd (wpAny_of_last _ _ _ _ (h hS))
end Go.Proofs.YtenfnakhijobkaaGreat
namespace Go.Proofs.YtenfnakhijobkaaGreat
open Go.RowKit Go.Proofs.YtenfnakhijobkaaGreatW.PrintLast
/-- As goes_, at a function value. -/
theorem goesV_ {P : Program} {ops : Array Oper} {Q : Exit → Act → World → Prop} {oi : Oper} {N : Option Tmp} {a : Act} {w : World} {K : Act → World → Prop} {f : FuncId} {fn : Func} {g : Operand} {xs : Array Operand} {ts : Array TypeId} {first cap : Array Value} (hf : P.funcs[f]? = some fn) (hname : (fn.name == "runtime.NumGoroutine") = false) (hb : fn.body.isSome = true) (args : Array Value)
    (hw : Region.wanted oi (yielded ops a.tmps) = true) (hN : oi.dst = N) (hop : oi.op = .call { callee := .value g, args := xs, argTypes := ts }) (hg : a.eval g = .func (.func f) first cap) (hargs : first ++ xs.map a.eval ++ cap = args)
    (h : Calls P f args w fun e w' => ∃ v, e = .returned v ∧ K (a.put N v) w') : if Region.wanted oi (yielded ops a.tmps) = true then Oper.wp P oi a w K Q else K (a.put N undef) w := by
  refine call_ f args hw hN ?_ h
  have he := enters_ hf hname hb args w
  unfold execOp
  simp [hop, resolve, Deferred.ofValue, invoke, hg, hargs, he]
end Go.Proofs.YtenfnakhijobkaaGreat
namespace Go.Proofs.YtenfnakhijobkaaGreat
open Go.RowKit Go.Proofs.YtenfnakhijobkaaGreatW.PrintLast

theorem within_any (n lo hi : Int) (w : World) :
    Calls Tryz.prog 151 #[.int .i64 n, .int .i64 lo, .int .i64 hi] w fun e w' => e = .returned (.bool (inB n lo hi)) ∧ w = w' := by
  by_cases h : lo ≤ n
  · go_enter Tryz.func151, Tryz.ntmps151
    go_wp2
    go_ret
    exact ⟨ret_bool (by simp [inB]; omega), rfl⟩
  · go_enter Tryz.func151, Tryz.ntmps151
    go_wp2
    go_ret
    exact ⟨ret_bool (by simp [inB]; omega), rfl⟩
theorem upTo_any (lo hi most : Int) (w : World) :
    Calls Tryz.prog 190 #[.agg #[.int .i64 lo, .int .i64 hi], .int .i64 most] w fun e w' => e = .returned (.bool (Rg.upTo ⟨lo, hi⟩ most)) ∧ Below w.heap.size w w' := by
  go_enter Tryz.func190, Tryz.ntmps190
  go_wp2
  all_goals go_ret
  all_goals exact ⟨ret_bool (by simp [Rg.upTo]; omega), below_box _ _⟩
theorem size_any (lo hi : Int) (w : World) (h0 : 0 ≤ lo) (h1 : lo ≤ hi) (h2 : hi ≤ 1000) :
    Calls Tryz.prog 178 #[.agg #[.int .i64 lo, .int .i64 hi]] w fun e w' => e = .returned (.int .i64 (hi - lo + 1)) ∧ Below w.heap.size w w' := by
  go_enter Tryz.func178, Tryz.ntmps178
  go_wp2
  go_ret
  exact ⟨rfl, below_box _ _⟩
theorem has_any (n lo hi : Int) (w : World) :
    Calls Tryz.prog 182 #[.agg #[.int .i64 lo, .int .i64 hi], .int .i64 n] w fun e w' => e = .returned (.bool (inB n lo hi)) ∧ Below w.heap.size w w' := by
  go_enter Tryz.func182, Tryz.ntmps182
  go_wp2_with (go_at_call 151; refine (within_any _ _ _ _).mono ?_; rintro e w' ⟨rfl, rfl⟩)
  go_ret
  exact ⟨rfl, below_box _ _⟩
theorem air_any (lo hi : Int) (w : World) :
    Calls Tryz.prog 171 #[.agg #[.int .i64 lo, .int .i64 hi]] w fun e w' => e = .returned (.bool (Rg.upTo ⟨lo, hi⟩ 9)) ∧ Below w.heap.size w w' := by
  go_enter Tryz.func171, Tryz.ntmps171
  go_wp2_with (go_at_call 190; refine (upTo_any _ _ _ _).mono ?_; rintro e w' ⟨rfl, hb⟩)
  go_ret
  exact ⟨rfl, below_on (below_box _ _) hb⟩
theorem valid_any (r d : Int) (w : World) :
    Calls Tryz.prog 173 #[.agg #[.int .i64 r, .int .i64 d]] w fun e w' => e = .returned (.bool (BoardD.ok ⟨r, d⟩)) ∧ Below w.heap.size w w' := by
  cases h : inB r 0 5
  all_goals have H := Lib.hid h
  · go_enter Tryz.func173, Tryz.ntmps173
    go_wp2_with (go_at_call 151; refine (call_b (within_any _ _ _ _) h).mono ?_; rintro e w' ⟨rfl, rfl⟩)
    go_ret
    exact ⟨ret_bool (by simp only [BoardD.ok, H.out, Bool.false_and]), below_box _ _⟩
  · cases h2 : inB d 0 4
    all_goals have H2 := Lib.hid h2
    all_goals go_enter Tryz.func173, Tryz.ntmps173
    all_goals go_wp2_with (go_at_call 151; refine (call_b (within_any _ _ _ _) (by assumption)).mono ?_; rintro e w' ⟨rfl, rfl⟩)
    all_goals go_ret
    all_goals exact ⟨ret_bool (by simp only [BoardD.ok, H.out, H2.out, Bool.true_and]), below_box _ _⟩
theorem cake_any (v : LoftV) (l : LoftD) (come lo hi keep : Int) (w : World) (h : RdLoft w v l) :
    Calls Tryz.prog 168 #[.agg v.cs, .agg #[.int .i64 come, .int .i64 lo, .int .i64 hi, .int .i64 keep]] w fun e w' => e = .returned (.bool (l.cakeOk ⟨come, ⟨lo, hi⟩, keep⟩)) ∧ Below w.heap.size w w' := by
  have HE : Hid (l.cakeOk ⟨come, ⟨lo, hi⟩, keep⟩ = (inB come 0 v.last && Rg.upTo ⟨lo, hi⟩ 40 && inB keep 1 6)) := by show _ = _; rw [h.last]; rfl
  cases h1 : inB come 0 v.last
  · have H1 := Lib.hid h1
    go_enter Tryz.func168, Tryz.ntmps168
    go_wp2_with (go_at_call 151; refine (call_b (within_any _ _ _ _) h1).mono ?_; rintro e w' ⟨rfl, rfl⟩)
    go_ret
    exact ⟨ret_bool (by rw [HE.out, H1.out]; rfl), below_on (below_box _ _) (below_box _ _)⟩
  have H1 := Lib.hid h1
  cases h2 : Rg.upTo ⟨lo, hi⟩ 40
  · have H2 := Lib.hid h2
    go_enter Tryz.func168, Tryz.ntmps168
    go_wp2_with (first | (go_at_call 151; refine (call_b (within_any _ _ _ _) h1).mono ?_; rintro e w' ⟨rfl, rfl⟩) | (go_at_call 190; refine (call_b (upTo_any _ _ _ _) h2).mono ?_; rintro e w' ⟨rfl, hb⟩))
    go_ret
    exact ⟨ret_bool (by rw [HE.out, H2.out, Bool.and_false]; rfl), below_on (below_on (below_box _ _) (below_box _ _)) hb⟩
  have H2 := Lib.hid h2
  cases h3 : inB keep 1 6
  all_goals have H3 := Lib.hid h3
  all_goals go_enter Tryz.func168, Tryz.ntmps168
  all_goals go_wp2_with (first | (go_at_call 151; refine (call_b (within_any _ _ _ _) (by assumption)).mono ?_; rintro e w' ⟨rfl, rfl⟩) | (go_at_call 190; obtain ⟨W2, hN2, BX2, hW2, hz2⟩ := Box.named (w.alloc (.cells v.cs 44)) #[.int .i64 come, .int .i64 lo, .int .i64 hi, .int .i64 keep] 186; rw [show (w.alloc (.cells v.cs 44)).heap.size = w.heap.size + 1 from World.size_alloc _ _] at BX2; rw [hN2]; clear hN2; refine (call_b (upTo_any _ _ _ _) h2).mono ?_; rintro e w3 ⟨rfl, hb⟩; have e3 := (BX2.lift hb).cell 3 (.int .i64 keep) rfl))
  all_goals go_ret
  all_goals exact ⟨ret_bool (by rw [HE.out, H1.out, H2.out, H3.out]; rfl), below_on (below_on (below_box _ _) hW2) hb⟩
theorem is_any (v : LoftV) (l : LoftD) (k : Int) (w : World) (h : RdLoft w v l) :
    Calls Tryz.prog 116 #[.agg v.cs, .int .i64 k] w fun e w' => e = .returned (.bool (l.is k)) ∧ Below w.heap.size w w' := by
  have HL : Hid (l.cakes.length = v.cakes.n) := h.cakes.len
  have hn := h.nle.2.2.1
  go_enter Tryz.func116, Tryz.ntmps116
  go_wp2_with (go_at_call 151; refine (within_any _ _ _ _).mono ?_; rintro e w' ⟨rfl, rfl⟩)
  go_ret
  exact ⟨ret_bool (by rw [LoftD.is, HL.out]), below_box _ _⟩
theorem day_any (v : LoftV) (l : LoftD) (k d : Int) (w : World) (h : RdLoft w v l) :
    Calls Tryz.prog 191 #[.agg v.cs, .int .i64 k, .int .i64 d] w fun e w' => e = .returned (.bool (l.is k && inB d (l.come k) l.last)) ∧ Below w.heap.size w w' := by
  have HL : Hid (l.cakes.length = v.cakes.n) := h.cakes.len
  have HLL : Hid (v.last = l.last) := h.last
  have hn := h.nle.2.2.1
  cases hk : l.is k
  · have HK := Lib.hid hk
    go_enter Tryz.func191, Tryz.ntmps191
    go_wp2
    obtain ⟨W0, hNW0, BX, hW0, hzW0⟩ := Box.named w (LoftV.cs v) 44
    rw [hNW0]
    clear hNW0
    have c0 := BX.cell 0 (.int .i64 v.last) rfl
    have c1 := BX.cell 1 (.slice v.air.a v.air.n v.air.c) rfl
    have c2 := BX.cell 2 (.slice v.shelves.a v.shelves.n v.shelves.c) rfl
    have c3 := BX.cell 3 (.slice v.cakes.a v.cakes.n v.cakes.c) rfl
    have c4 := BX.cell 4 (.slice v.put.a v.put.n v.put.c) rfl
    have c5 := BX.cell 5 (.slice v.weights.a v.weights.n v.weights.c) rfl
    have zz0 := fun x : After W0 => At.cell c0 x
    have zz1 := fun x : After W0 => At.cell c1 x
    have zz2 := fun x : After W0 => At.cell c2 x
    have zz3 := fun x : After W0 => At.cell c3 x
    have zz4 := fun x : After W0 => At.cell c4 x
    have zz5 := fun x : After W0 => At.cell c5 x
    refine wp_region_after (by kernel_rfl) (by kernel_rfl) ?_
    repeat (go_big_quiet_step ((go_at_call 116; exact after_call (call_b (is_any v l k _ (h.below (hW0.trans ((At.below _).mono hW0.size)))) hk))))
    refine wpQuiet_nil ?_
    intro W2 hbW2
    clear zz0 zz1 zz2 zz3 zz4 zz5
    go_wp2
    go_ret
    exact ⟨rfl, below_on hW0 hbW2⟩
  · have hk2 := hk
    rw [LoftD.is, inB_iff] at hk2
    obtain ⟨kn, rfl⟩ := Int.eq_ofNat_of_zero_le hk2.1
    have hlt : kn < v.cakes.n := by have := HL.out; omega
    obtain ⟨c, hc⟩ := at_of_lt HL.out hlt
    obtain ⟨b, o, ha, hbl, hc1, _⟩ := h.cakes.cake_at hc
    have HCM : Hid (l.come kn = c.come) := by show _ = _; simp only [LoftD.come, gI_nat, hc]
    clear hc hk2
    go_enter Tryz.func191, Tryz.ntmps191
    go_wp2
    obtain ⟨W0, hNW0, BX, hW0, hzW0⟩ := Box.named w (LoftV.cs v) 44
    rw [hNW0]
    clear hNW0
    have c0 := BX.cell 0 (.int .i64 v.last) rfl
    have c1 := BX.cell 1 (.slice v.air.a v.air.n v.air.c) rfl
    have c2 := BX.cell 2 (.slice v.shelves.a v.shelves.n v.shelves.c) rfl
    have c3 := BX.cell 3 (.slice v.cakes.a v.cakes.n v.cakes.c) rfl
    have c4 := BX.cell 4 (.slice v.put.a v.put.n v.put.c) rfl
    have c5 := BX.cell 5 (.slice v.weights.a v.weights.n v.weights.c) rfl
    have hc1 := lift hW0 hc1
    have HA := Lib.hid ha
    rw [ha] at c3
    clear ha
    have zz0 := fun x : After W0 => At.cell c0 x
    have zz1 := fun x : After W0 => At.cell c1 x
    have zz2 := fun x : After W0 => At.cell c2 x
    have zz3 := fun x : After W0 => At.cell c3 x
    have zz4 := fun x : After W0 => At.cell c4 x
    have zz5 := fun x : After W0 => At.cell c5 x
    have zz6 := fun x : After W0 => At.cell hc1 x
    refine wp_region_after (by kernel_rfl) (by kernel_rfl) ?_
    repeat (go_big_quiet_step ((first | (go_at_call 116; rw [← HA.out]; exact after_call (call_b (is_any v l kn _ (h.below (hW0.trans ((At.below _).mono hW0.size)))) hk)) | (go_at_call 151; exact after_same (within_any _ _ _ _)))))
    refine wpQuiet_nil ?_
    intro W2 hbW2
    clear zz0 zz1 zz2 zz3 zz4 zz5 zz6
    go_wp2
    go_ret
    exact ⟨ret_bool (by rw [HCM.out, HLL.out]; simp), below_on hW0 hbW2⟩
theorem weight_any (v : LoftV) (l : LoftD) (k d lo hi : Int) (w : World) (h : RdLoft w v l) :
    Calls Tryz.prog 169 #[.agg v.cs, .agg #[.int .i64 k, .int .i64 d, .int .i64 lo, .int .i64 hi]] w fun e w' => e = .returned (.bool (l.weightOk ⟨k, d, ⟨lo, hi⟩⟩)) ∧ Below w.heap.size w w' := by
  cases h1 : (l.is k && inB d (l.come k) l.last)
  all_goals have H1 := Lib.hid h1
  all_goals go_enter Tryz.func169, Tryz.ntmps169
  · go_wp2_with (go_at_call 191; obtain ⟨W1, hN1, BX1, hW1, hz1⟩ := Box.named w v.cs 44; rw [hN1]; clear hN1; obtain ⟨W2, hN2, BX2, hW2, hz2⟩ := Box.named W1 #[.int .i64 k, .int .i64 d, .int .i64 lo, .int .i64 hi] 188; rw [hN2]; clear hN2; rw [show W1.heap.size = w.heap.size + 1 from hz1.out] at BX2; refine (call_b (day_any v l k d _ (h.below (below_on hW1 hW2))) h1).mono ?_; rintro e w3 ⟨rfl, hb3⟩; have e2 := (BX2.lift hb3).cell 2 (.int .i64 lo) rfl; have e3 := (BX2.lift hb3).cell 3 (.int .i64 hi) rfl)
    go_ret
    exact ⟨ret_bool (by rw [LoftD.weightOk, H1.out]; rfl), below_on (below_on hW1 hW2) hb3⟩
  · go_wp2_with (first | (go_at_call 191; obtain ⟨W1, hN1, BX1, hW1, hz1⟩ := Box.named w v.cs 44; rw [hN1]; clear hN1; obtain ⟨W2, hN2, BX2, hW2, hz2⟩ := Box.named W1 #[.int .i64 k, .int .i64 d, .int .i64 lo, .int .i64 hi] 188; rw [hN2]; clear hN2; rw [show W1.heap.size = w.heap.size + 1 from hz1.out] at BX2; refine (call_b (day_any v l k d _ (h.below (below_on hW1 hW2))) h1).mono ?_; rintro e w3 ⟨rfl, hb3⟩; have e2 := (BX2.lift hb3).cell 2 (.int .i64 lo) rfl; have e3 := (BX2.lift hb3).cell 3 (.int .i64 hi) rfl) | (go_at_call 190; refine (upTo_any _ _ _ _).mono ?_; rintro e w4 ⟨rfl, hb4⟩))
    go_ret
    exact ⟨ret_bool (by rw [LoftD.weightOk, H1.out]; rfl), below_on (below_on (below_on hW1 hW2) hb3) hb4⟩
end Go.Proofs.YtenfnakhijobkaaGreat
namespace Go.Proofs.YtenfnakhijobkaaGreat
open Go.RowKit Go.Proofs.YtenfnakhijobkaaGreatW.PrintLast
theorem info178 : (Tryz.prog.info? 178).map (fun i => (i.zero, i.size, i.bytes)) = some (some (.agg #[.int .i64 0, .int .i64 0]), 2, 16) := by kernel_rfl
theorem flat_len {α β : Type} {f : α → List β} {sz : Nat} (hf : ∀ x, (f x).length = sz) : ∀ xs : List α, (xs.flatMap f).length = xs.length * sz
  | [] => by simp
  | x :: xs => by rw [List.flatMap_cons, List.length_append, hf x, flat_len hf xs, List.length_cons, Nat.succ_mul, Nat.add_comm]
theorem Rd.nil_of {α : Type} {R : World → α → List Value → Prop} {sz : Nat} {w : World} {s : Sl} {xs : List α} (h : Rd R sz w s xs) (ha : s.a = none) : xs = [] := by
  cases xs with
  | nil => rfl
  | cons x xs =>
    obtain ⟨b, o, cs, ha', _⟩ := h.cells 0 x rfl
    rw [ha] at ha'
    cases ha'
theorem Rd.flat {α : Type} {f : α → List Value} {sz : Nat} {w : World} {s : Sl} {xs : List α} (h : Rd (encR f) sz w s xs) (hf : ∀ x, (f x).length = sz) (h0 : 0 < sz) (ad : Addr) (ha : s.a = some ad) (j : Nat) (u : Value) (hj : (xs.flatMap f)[j]? = some u) : w.cell? (ad.add j) = some u := by
  have hlt := (List.getElem?_eq_some_iff.1 hj).1
  rw [flat_len hf] at hlt
  have hq : j / sz < xs.length := Nat.div_lt_of_lt_mul (by rw [Nat.mul_comm]; exact hlt)
  have hr : j % sz < sz := Nat.mod_lt _ h0
  have hx : xs[j / sz]? = some xs[j / sz] := List.getElem?_eq_getElem hq
  obtain ⟨b, o, cs, ha', hb, hl, hR, hc⟩ := h.cells _ _ hx
  rw [ha] at ha'
  simp only [Option.some.injEq] at ha'
  subst ha'
  obtain ⟨u', hu'⟩ : ∃ u', cs[j % sz]? = some u' := ⟨cs[j % sz], List.getElem?_eq_getElem (by omega)⟩
  have h1 := hc _ _ hu'
  cases hR
  have h2 := flat_at hf hx hu'
  have e : j / sz * sz + j % sz = j := by rw [Nat.mul_comm]; exact Nat.div_add_mod j sz
  rw [e, hj] at h2
  cases h2
  rw [Addr.add_lit, show o + j = o + j / sz * sz + j % sz from by omega]
  exact h1


theorem CloneRg_any (s : Sl) (xs : List Rg) (w : World) (h : Rd (encR Rg.cs) 2 w s xs) (hn : s.n ≤ 100000) :
    Calls Tryz.prog 200 #[.slice s.a s.n s.c] w fun e w' => ∃ v, e = .returned v ∧ w'.ownsRow w.heap.size 178 2 v s.n (xs.flatMap Rg.cs) ∧ Below w.heap.size w w' := by
  obtain ⟨sa, sn, sc⟩ := s
  have HL : Hid (xs.length = sn) := h.len
  obtain ⟨i0, hi0, hz0, hz1, hz2⟩ := info_parts info178
  have HI := Lib.hid hi0
  have HZ0 := Lib.hid hz0
  have HZ1 := Lib.hid hz1
  have HZ2 := Lib.hid hz2
  clear hi0 hz0 hz1 hz2
  simp only at hn
  have q := fun (w : World) (a : Option Addr) (n c n' c' : Nat) => Lib.run_eql_slice_nil (P := Tryz.prog) w _ _ a n c n' c' Tryz.underlying39
  have L1 : Hid ((xs.flatMap Rg.cs).length = sn * 2) := by show _ = _; rw [← HL.out]; exact flat_len (f := Rg.cs) (fun _ => rfl) xs
  have L2 : Hid (∀ u ∈ xs.flatMap Rg.cs, u.oneCell' = true) := fun u hu => by
    obtain ⟨x, _, hx⟩ := List.mem_flatMap.1 hu
    simp at hx
    first | (subst hx; rfl) | (rcases hx with rfl | rfl <;> rfl)
  cases sa with
  | none =>
    have hnil := h.nil_of rfl
    have HN := Lib.hid hnil
    clear hnil
    go_enter Tryz.func200, Tryz.ntmps200
    go_wp2
    go_ret
    refine ⟨_, rfl, ?_, Below.refl _ _⟩
    have h0 : sn = 0 := by have := HL.out; rw [HN.out] at this; exact this.symm
    rw [HN.out, h0]
    exact World.ownsRow_nil _ _ _ _
  | some ad =>
    have HC : Hid (∀ j u, (xs.flatMap Rg.cs)[j]? = some u → (w.alloc (.cells #[] 178)).cell? (ad.add j) = some u) := fun j u hj => Lib.cell?_alloc_some _ (h.flat (f := Rg.cs) (fun _ => rfl) (by decide) ad rfl j u hj)
    have m1 : Hid (0 + sn ≤ maxLen) := by show _ ≤ _; unfold maxLen; omega
    have m2 : Hid ((0 + sn) * 16 ≤ 140737488355328) := by show _ ≤ _; omega
    go_enter Tryz.func200, Tryz.ntmps200
    go_wp2_with (at_builtin; refine wpList_append_own _ rfl _ _ 39 rfl w.heap.size 178 i0 _ 2 16 Tryz.underlying39 HI.out HZ0.out HZ1.out HZ2.out rfl (by decide) _ 0 [] rfl (World.ownsRow_made w #[] 0 (Nat.le_refl _) (Nat.zero_le _) (by simp)) ad sn sc (xs.flatMap Rg.cs) rfl L1.out HC.out L2.out m1.out m2.out (by simp) ?_; intro v' w1 hown hgrow hnil)
    go_wp2
    go_ret
    refine ⟨v', rfl, by simpa using hown, ?_⟩
    exact ((Below.refl _ w).alloc (Nat.le_refl _) _).grown hgrow (by simp) (fun k hk => ((World.ownsRow_made (base := w.heap.size) (e := 178) (size := 2) w #[] 0 (Nat.le_refl _) (Nat.zero_le _) (by simp)).lt k hk).1)


theorem CloneInt_any (s : Sl) (xs : List Int) (w : World) (h : Rd (encR (fun x : Int => [Value.int .i64 x])) 1 w s xs) (hn : s.n ≤ 100000) :
    Calls Tryz.prog 102 #[.slice s.a s.n s.c] w fun e w' => ∃ v, e = .returned v ∧ w'.ownsRow w.heap.size 3 1 v s.n (xs.flatMap (fun x : Int => [Value.int .i64 x])) ∧ Below w.heap.size w w' := by
  obtain ⟨sa, sn, sc⟩ := s
  have HL : Hid (xs.length = sn) := h.len
  obtain ⟨i0, hi0, hz0, hz1, hz2⟩ := info_parts info3
  have HI := Lib.hid hi0
  have HZ0 := Lib.hid hz0
  have HZ1 := Lib.hid hz1
  have HZ2 := Lib.hid hz2
  clear hi0 hz0 hz1 hz2
  simp only at hn
  have q := fun (w : World) (a : Option Addr) (n c n' c' : Nat) => Lib.run_eql_slice_nil (P := Tryz.prog) w _ _ a n c n' c' Tryz.underlying25
  have L1 : Hid ((xs.flatMap (fun x : Int => [Value.int .i64 x])).length = sn * 1) := by show _ = _; rw [← HL.out]; exact flat_len (f := (fun x : Int => [Value.int .i64 x])) (fun _ => rfl) xs
  have L2 : Hid (∀ u ∈ xs.flatMap (fun x : Int => [Value.int .i64 x]), u.oneCell' = true) := fun u hu => by
    obtain ⟨x, _, hx⟩ := List.mem_flatMap.1 hu
    simp at hx
    first | (subst hx; rfl) | (rcases hx with rfl | rfl <;> rfl)
  cases sa with
  | none =>
    have hnil := h.nil_of rfl
    have HN := Lib.hid hnil
    clear hnil
    go_enter Tryz.func102, Tryz.ntmps102
    go_wp2
    go_ret
    refine ⟨_, rfl, ?_, Below.refl _ _⟩
    have h0 : sn = 0 := by have := HL.out; rw [HN.out] at this; exact this.symm
    rw [HN.out, h0]
    exact World.ownsRow_nil _ _ _ _
  | some ad =>
    have HC : Hid (∀ j u, (xs.flatMap (fun x : Int => [Value.int .i64 x]))[j]? = some u → (w.alloc (.cells #[] 3)).cell? (ad.add j) = some u) := fun j u hj => Lib.cell?_alloc_some _ (h.flat (f := (fun x : Int => [Value.int .i64 x])) (fun _ => rfl) (by decide) ad rfl j u hj)
    have m1 : Hid (0 + sn ≤ maxLen) := by show _ ≤ _; unfold maxLen; omega
    have m2 : Hid ((0 + sn) * 8 ≤ 140737488355328) := by show _ ≤ _; omega
    go_enter Tryz.func102, Tryz.ntmps102
    go_wp2_with (at_builtin; refine wpList_append_own _ rfl _ _ 25 rfl w.heap.size 3 i0 _ 1 8 Tryz.underlying25 HI.out HZ0.out HZ1.out HZ2.out rfl (by decide) _ 0 [] rfl (World.ownsRow_made w #[] 0 (Nat.le_refl _) (Nat.zero_le _) (by simp)) ad sn sc (xs.flatMap (fun x : Int => [Value.int .i64 x])) rfl L1.out HC.out L2.out m1.out m2.out (by simp) ?_; intro v' w1 hown hgrow hnil)
    go_wp2
    go_ret
    refine ⟨v', rfl, by simpa using hown, ?_⟩
    exact ((Below.refl _ w).alloc (Nat.le_refl _) _).grown hgrow (by simp) (fun k hk => ((World.ownsRow_made (base := w.heap.size) (e := 3) (size := 1) w #[] 0 (Nat.le_refl _) (Nat.zero_le _) (by simp)).lt k hk).1)

end Go.Proofs.YtenfnakhijobkaaGreat
namespace Go.Proofs.YtenfnakhijobkaaGreat
open Go.RowKit Go.Proofs.YtenfnakhijobkaaGreatW.PrintLast
def LoftD.ranges (l : LoftD) : List Rg := l.air ++ l.cakes.map (·.water)
/-- A list of ranges is returned, in memory of its own. -/
def RetRgs (w : World) (xs : List Rg) (e : Ending) (w' : World) : Prop := ∃ s : Sl, e = .returned (.slice s.a s.n s.c) ∧ Fr (fun W => RdRgs W s xs) w.heap.size w' ∧ Below w.heap.size w w'
set_option maxHeartbeats 1000000 in
theorem ranges_any (v : LoftV) (l : LoftD) (w : World) (h : RdLoft w v l) (h6 : l.air.length ≤ 6) (h5 : l.cakes.length ≤ 5) :
    Calls Tryz.prog 176 #[.agg v.cs] w (RetRgs w l.ranges) := by
  have HLa : Hid (l.air.length = v.air.n) := h.air.len
  have HLc : Hid (l.cakes.length = v.cakes.n) := h.cakes.len
  have ha6 : v.air.n ≤ 6 := by have := HLa.out; omega
  have hc5 : v.cakes.n ≤ 5 := by have := HLc.out; omega
  clear h6 h5
  obtain ⟨i0, hi0, hz0, hz1, hz2⟩ := info_parts info178
  have HI := Lib.hid hi0
  have HZ0 := Lib.hid hz0
  have HZ1 := Lib.hid hz1
  have HZ2 := Lib.hid hz2
  clear hi0 hz0 hz1 hz2
  go_enter Tryz.func176, Tryz.ntmps176
  go_wp2_with (go_at_call 200; obtain ⟨W0, hNW0, BX, hW0, hzW0⟩ := Box.named w (LoftV.cs v) 44; rw [hNW0]; clear hNW0; refine (CloneRg_any v.air l.air _ (h.air.below (encR_mono _) hW0) (by omega)).mono ?_; rintro e w1 ⟨vv, rfl, hown, hb1⟩; have c3 := (BX.lift hb1).cell 3 (.slice v.cakes.a v.cakes.n v.cakes.c) rfl)
  go_loopw [3, 12] (fun r i wr => ∃ k : Nat, ∃ vv : Value, k ≤ v.cakes.n ∧ i = .int .i64 k ∧ vv = r ∧ wr.ownsRow W0.heap.size 178 2 vv (v.air.n + k) ((l.air ++ (l.cakes.take k).map (·.water)).flatMap Rg.cs) ∧ Below W0.heap.size W0 wr) (fun _ i _ => v.cakes.n - (intOf i).toNat)
  case atStart => exact ⟨0, _, Nat.zero_le _, rfl, rfl, by simpa using hown, hb1⟩
  case round =>
    clear c3 hown
    obtain ⟨k, vv, hk, rfl, rfl, hown, hb⟩ := hrel
    have hw := below_on hW0 hb
    have HOWN := Lib.hid hown
    clear hown
    by_cases hlt : k < v.cakes.n
    · obtain ⟨x, hx⟩ := at_of_lt HLc.out hlt
      obtain ⟨b, o, ha, hbl, hc0, hc1, hc2, hc3⟩ := h.cakes.cake_at hx
      have hc0 := lift hw hc0
      have hc1 := lift hw hc1
      have hc2 := lift hw hc2
      have hc3 := lift hw hc3
      have HX := Lib.hid hx
      rw [ha]
      clear hx ha
      have hown1 : (wr.alloc (.cells #[.int .i64 x.come, .int .i64 x.water.lo, .int .i64 x.water.hi, .int .i64 x.keep] 186)).ownsRow W0.heap.size 178 2 vv (v.air.n + k) ((l.air ++ (l.cakes.take k).map (·.water)).flatMap Rg.cs) := HOWN.out.alloc _
      have HOWN1 := Lib.hid hown1
      clear hown1
      have hsz := hb.size
      have hml : v.air.n + k + 1 ≤ maxLen := by unfold maxLen; omega
      go_wp2_with (at_builtin; refine wpList_append_lies _ rfl _ _ _ rfl W0.heap.size 178 i0 _ 2 16 Tryz.underlying39 HI.out HZ0.out HZ1.out HZ2.out rfl (by omega) vv (v.air.n + k) _ rfl (HOWN1.out.alloc _) ⟨wr.heap.size + 1, 0, none⟩ 1 1 [.int .i64 x.water.lo, .int .i64 x.water.hi] rfl rfl (by rw [show wr.heap.size + 1 = (wr.alloc (.cells #[.int .i64 x.come, .int .i64 x.water.lo, .int .i64 x.water.hi, .int .i64 x.keep] 186)).heap.size from (World.size_alloc _ _).symm]; exact World.news_of_block (cs := #[.int .i64 x.water.lo, .int .i64 x.water.hi]) (t := 178) (fr := (0, 0)) (heap_alloc_new _ _)) (by simp [Value.oneCell']) (by omega) hml (by omega) (by simp; omega) _ rfl ?_; intro g cap w5 hown5 hgrow hat hlt5)
      go_roundw
      case measure => simp [intOf]; omega
      case rel =>
        refine ⟨k + 1, _, by omega, by go_num, rfl, ?_, ?_⟩
        · have e : (l.air ++ (l.cakes.take (k + 1)).map (·.water)).flatMap Rg.cs = (l.air ++ (l.cakes.take k).map (·.water)).flatMap Rg.cs ++ [.int .i64 x.water.lo, .int .i64 x.water.hi] := by
            rw [List.take_add_one, HX.out]
            simp
          rw [e]
          exact hown5
        · exact (below_on (below_on hb (below_box _ _)) (below_box _ _)).grown hgrow (by simp; omega) (fun b hbb => (HOWN.out.lt b hbb).1)
    · obtain rfl : k = v.cakes.n := by omega
      have HR : Hid (l.air ++ (l.cakes.take v.cakes.n).map (·.water) = l.ranges) := by
        show _ = _
        rw [take_len HLc.out]; rfl
      have h1 := HOWN.out
      rw [HR.out] at h1
      obtain ⟨⟨ua, un, uc⟩, hvu, hun, hrub, hru⟩ := own_fr (f := Rg.cs) (fun _ => rfl) (by rw [LoftD.ranges, List.length_append, List.length_map, HLa.out, HLc.out]) (by omega) h1
      simp only at hvu hun
      subst hvu hun
      clear h1
      go_wp2
      go_ret
      exact ⟨⟨ua, _, uc⟩, rfl, hru.mono hW0.size (fun _ h => h), hw⟩
end Go.Proofs.YtenfnakhijobkaaGreat
namespace Go.Proofs.YtenfnakhijobkaaGreat
open Go.RowKit Go.Proofs.YtenfnakhijobkaaGreatW.PrintLast

/-- An array of eleven numbers. -/
abbrev numsC (f : Nat → Int) : Array Value := #[.int .i64 (f 0), .int .i64 (f 1), .int .i64 (f 2), .int .i64 (f 3), .int .i64 (f 4), .int .i64 (f 5), .int .i64 (f 6), .int .i64 (f 7), .int .i64 (f 8), .int .i64 (f 9), .int .i64 (f 10)]
theorem lt11 {i : Nat} (h : i < 11) : i = 0 ∨ i = 1 ∨ i = 2 ∨ i = 3 ∨ i = 4 ∨ i = 5 ∨ i = 6 ∨ i = 7 ∨ i = 8 ∨ i = 9 ∨ i = 10 := by omega
theorem numsC_at (f : Nat → Int) {i : Nat} (h : i < 11) : (numsC f)[i]? = some (.int .i64 (f i)) := by
  rcases lt11 h with rfl | rfl | rfl | rfl | rfl | rfl | rfl | rfl | rfl | rfl | rfl <;> rfl
def putF (f : Nat → Int) (i : Nat) (x : Int) : Nat → Int := fun j => if j = i then x else f j
theorem numsC_set (f : Nat → Int) {i : Nat} (h : i < 11) (x : Int) : (numsC f).setIfInBounds i (.int .i64 x) = numsC (putF f i x) := by
  rcases lt11 h with rfl | rfl | rfl | rfl | rfl | rfl | rfl | rfl | rfl | rfl | rfl <;> simp [numsC, putF]
def numsF (t : TruthD) (i : Nat) : Int := (t.air ++ t.water).getD i 0
theorem numsF_air {t : TruthD} {i : Nat} (h : i < t.air.length) : numsF t i = t.air.getD i 0 := by
  unfold numsF
  rw [List.getD_eq_getElem?_getD, List.getElem?_append_left h, List.getD_eq_getElem?_getD]
theorem numsF_water {t : TruthD} {i : Nat} : numsF t (t.air.length + i) = t.water.getD i 0 := by
  unfold numsF
  rw [List.getD_eq_getElem?_getD, List.getElem?_append_right (by omega), List.getD_eq_getElem?_getD]
  congr 2
  omega

def leftL (water draft : Int) (air : List Int) (come n : Nat) : List Int := (List.range n).map fun i => leftN water draft air come (i + 1)
theorem leftL_succ (water draft : Int) (air : List Int) (come n : Nat) : leftL water draft air come (n + 1) = leftL water draft air come n ++ [leftN water draft air come (n + 1)] := by
  unfold leftL; rw [List.range_succ]; simp
set_option maxHeartbeats 4000000 in
set_option maxRecDepth 100000 in
theorem left_any (v : LoftV) (l : LoftD) (t : TruthD) (hl : LOk l) (ht : TOk l t) (s k : Nat) (bd : BoardD) (ck : CakeD) (hs : l.shelves[s]? = some bd) (hk : l.cakes[k]? = some ck) (come : Nat) (hcome : ck.come = come) (water : Int) (hwat : t.water[k]? = some water) (n : Nat) (hn : come + n = l.air.length)
    (w : World) (h : RdLoft w v l) :
    Calls Tryz.prog 181 #[.agg v.cs, .agg (numsC (numsF t)), .agg #[.int .i64 k, .int .i64 s]] w (RetInts w (leftL water bd.draft t.air come n)) := by
  obtain ⟨i0, hi0, hz0, hz1, hz2⟩ := info_parts info3
  have HI := Lib.hid hi0
  have HZ0 := Lib.hid hz0
  have HZ1 := Lib.hid hz1
  have HZ2 := Lib.hid hz2
  clear hi0 hz0 hz1 hz2
  have hal := hl.air
  have hl5 := hl.last5
  have hdr := (hl.shelves bd (List.mem_of_getElem? hs)).2.2
  have hwb := ht.water water (List.mem_of_getElem? hwat)
  obtain ⟨L, hL⟩ : ∃ L : Nat, v.last = (L : Int) := ⟨v.last.toNat, by have := hl.last0; have := h.last; omega⟩
  have hLl : l.last = (L : Int) := by rw [← h.last, hL]
  have hL5 : L ≤ 5 := by omega
  have hL6 : come + n = L + 1 := by omega
  have hkc : k < v.cakes.n := by rw [← h.cakes.len]; exact lt_of_at hk
  have hk5 : k < 5 := by have := hl.cakes5; have := lt_of_at hk; omega
  have hsb : s < v.shelves.n := by rw [← h.shelves.len]; exact lt_of_at hs
  obtain ⟨b, o, ha, hbl, hc1, _⟩ := h.cakes.cake_at hk
  rw [hcome] at hc1
  obtain ⟨b3, o3, ha3, hbl3, _, hc3⟩ := h.shelves.board_at hs
  have hwf : numsF t (L + 1 + k) = water := by
    have e : L + 1 + k = t.air.length + k := by have := ht.na; omega
    rw [e, numsF_water, List.getD_eq_getElem?_getD, hwat]; rfl
  have hfa : ∀ j, j < n → numsF t (come + j) = t.air.getD (come + j) 0 := fun j hj => numsF_air (by have := ht.na; omega)
  have hLN := leftN_bd (air := t.air) (come := come) hwb hdr ht.air
  have hfb : ∀ j, j < n → 0 ≤ numsF t (come + j) ∧ numsF t (come + j) ≤ 9 := fun j hj => by
    rw [hfa j hj, List.getD_eq_getElem?_getD]
    have : come + j < t.air.length := by have := ht.na; omega
    rw [List.getElem?_eq_getElem this]
    exact ht.air _ (List.getElem_mem this)
  have HLN := Lib.hid hLN
  have HFA := Lib.hid hfa
  have HFB := Lib.hid hfb
  have HWF := Lib.hid hwf
  have HL := Lib.hid hL
  have HA := Lib.hid ha
  have HA3 := Lib.hid ha3
  obtain ⟨f, hf⟩ : ∃ f, numsF t = f := ⟨_, rfl⟩
  rw [hf] at HFA HFB HWF ⊢
  clear hLN hfa hfb hwf hf hL hLl hal hl5 ha ha3 hn hcome hwat hs hk
  obtain ⟨vl, va, vs, vc, vp, vw⟩ := v
  have hvl := HL.out
  simp only at hvl
  subst hvl
  clear HL
  obtain ⟨W0, hNW0, BX, hW0, hzW0⟩ := Box.named w (LoftV.cs ⟨(L : Int), va, vs, vc, vp, vw⟩) 44
  obtain ⟨W1, hNW1, BX1, hW1, hzW1⟩ := Box.named W0 (numsC f) 228
  obtain ⟨W2, hNW2, BX2, hW2, hzW2⟩ := Box.named W1 #[.int .i64 (k : Int), .int .i64 (s : Int)] 194
  have hw2 := below_on (below_on hW0 hW1) hW2
  have c0 := ((BX.lift hW1).lift hW2).cell 0 (.int .i64 L) rfl
  have c2 := ((BX.lift hW1).lift hW2).cell 2 (.slice vs.a vs.n vs.c) rfl
  have c3 := ((BX.lift hW1).lift hW2).cell 3 (.slice vc.a vc.n vc.c) rfl
  have g0 := BX2.cell 0 (.int .i64 k) rfl
  have g1 := BX2.cell 1 (.int .i64 s) rfl
  have hc1 := lift hw2 hc1
  have hc3 := lift hw2 hc3
  have n0 := (BX1.lift hW2).cell (L + 1 + k) _ (numsC_at f (by omega))
  rw [HWF.out] at n0
  have HA' := HA.out
  have HA3' := HA3.out
  simp only at HA' HA3'
  rw [HA'] at c3
  rw [HA3'] at c2
  clear HA' HA3'
  go_enter Tryz.func181, Tryz.ntmps181
  go_wp2
  clear hNW0 hNW1 hNW2
  have hcL : come ≤ L + 1 := by omega
  go_loopw [6, 7, 8] (fun r x d wr => ∃ j : Nat, ∃ vv : Value, ∃ y : Int, j ≤ n ∧ d = .int .i64 ((come + j : Nat) : Int) ∧ x = .int .i64 y ∧ vv = r ∧ y = leftN water bd.draft t.air come j ∧ wr.ownsRow W2.heap.size 3 1 vv j ((leftL water bd.draft t.air come j).map (Value.int .i64)) ∧ Below W2.heap.size W2 wr) (fun _ _ d _ => L + 1 - (intOf d).toNat)
  case atStart => exact ⟨0, _, _, Nat.zero_le _, rfl, rfl, rfl, rfl, World.ownsRow_nil _ _ _ _, Below.refl _ _⟩
  case round =>
    obtain ⟨j, vv, y, hj, rfl, rfl, rfl, hy, hown, hb⟩ := hrel
    have HOWN := Lib.hid hown
    have hyb := HLN.out j
    rw [← hy] at hyb
    have HY := Lib.hid hy
    clear hown hy
    have e0 := lift hb c0
    have e2 := lift hb c2
    have q0 := lift hb g0
    have q1 := lift hb g1
    have qc3 := lift hb hc3
    by_cases hlt : j < n
    · have nj := ((BX1.lift hW2).lift hb).cell (come + j) _ (numsC_at f (by omega))
      have hfb := HFB.out j hlt
      obtain ⟨fj, hfj⟩ : ∃ fj, f (come + j) = fj := ⟨_, rfl⟩
      rw [hfj] at nj hfb
      have HFJ := Lib.hid hfj
      clear hfj
      have hcj : come + j ≤ L := by omega
      have hcj11 : come + j < 11 := by omega
      go_wp2
      have zz0 := fun x : After wr => At.cell e0 x
      have zz1 := fun x : After wr => At.cell e2 x
      have zz2 := fun x : After wr => At.cell q0 x
      have zz3 := fun x : After wr => At.cell q1 x
      have zz4 := fun x : After wr => At.cell qc3 x
      have zz5 := fun x : After wr => At.cell nj x
      refine wp_region_after (by kernel_rfl) (by kernel_rfl) ?_
      repeat (go_big_quiet_step ((fail)))
      refine wpQuiet_nil ?_
      intro W4 hbW4
      clear zz0 zz1 zz2 zz3 zz4 zz5
      have hml : j + 1 ≤ maxLen := by unfold maxLen; omega
      have hsz := hb.size
      have hsz4 := hbW4.size
      go_wp2_with (at_builtin; refine wpList_append_lies _ rfl _ _ _ rfl W2.heap.size 3 i0 _ 1 8 Tryz.underlying25 HI.out HZ0.out HZ1.out HZ2.out rfl (by omega) vv j _ rfl ((own_below HOWN.out hbW4).alloc _) ⟨W4.heap.size, 0, none⟩ 1 1 [.int .i64 (max 0 (y - fj - bd.draft))] rfl rfl (World.news_of_block (cs := #[.int .i64 (max 0 (y - fj - bd.draft))]) (t := 3) (fr := (0, 0)) (heap_alloc_new W4 _)) (by simp [Value.oneCell']) (by omega) hml (by omega) (by simp; omega) _ rfl ?_; intro g cap w5 hown5 hgrow hat hlt5)
      go_roundw
      case measure => simp [intOf]; omega
      case rel =>
        have e : leftN water bd.draft t.air come (j + 1) = max 0 (y - fj - bd.draft) := by
          rw [leftN, ← HFA.out j hlt, HFJ.out, ← HY.out]
        refine ⟨j + 1, _, _, by omega, by go_num, rfl, rfl, e.symm, ?_, (below_on (below_on hb hbW4) (below_box _ _)).grown hgrow (by simp; omega) (fun b hbb => (HOWN.out.lt b hbb).1)⟩
        rw [leftL_succ, e, List.map_append]
        exact hown5
    · obtain rfl : j = n := by omega
      have hll : (leftL water bd.draft t.air come j).length = j := by simp [leftL]
      obtain ⟨⟨ua, un, uc⟩, hvu, hun, hrub, hru⟩ := own_ints hll (by omega) HOWN.out
      simp only at hvu hun
      subst hvu hun
      go_wp2
      go_ret
      exact ⟨⟨ua, _, uc⟩, rfl, hru.mono hw2.size (fun _ h => h), below_on hw2 hb⟩
end Go.Proofs.YtenfnakhijobkaaGreat
namespace Go.Proofs.YtenfnakhijobkaaGreat
open Go.RowKit Go.Proofs.YtenfnakhijobkaaGreatW.PrintLast
theorem Index_any (s : Sl) (xs : List Int) (n : Int) (w : World) (h : RdInts w s xs) :
    Calls Tryz.prog 187 #[.slice s.a s.n s.c, .int .i64 n] w fun e w' => ∃ r : Int, e = .returned (.int .i64 r) ∧ decide (0 ≤ r) = xs.any (· == n) ∧ w = w' := by
  obtain ⟨sa, sn, sc⟩ := s
  have hs : sn ≤ 281474976710656 := by have := h.small; simp at this; omega
  have HL : Hid (xs.length = sn) := h.len
  go_enter Tryz.func187, Tryz.ntmps187
  go_wp2
  go_loopw [8] (fun i wr => ∃ k : Nat, k ≤ sn ∧ i = .int .i64 k ∧ Hid ((xs.take k).any (· == n) = false) ∧ w = wr) (fun i _ => sn - (intOf i).toNat)
  case atStart => exact ⟨0, Nat.zero_le _, rfl, by simp [Hid], rfl⟩
  case round =>
    obtain ⟨k, hk, rfl, hq, rfl⟩ := hrel
    by_cases hlt : k < sn
    · obtain ⟨x, hx⟩ := at_of_lt HL.out hlt
      obtain ⟨b, o, ha, hbl, hc⟩ := h.int_at hx
      have HX := Lib.hid hx
      simp only at ha
      subst ha
      clear hx
      cases hb : (n == x)
      · have HB := Lib.hid hb
        go_wp2
        go_roundw
        case rel => exact ⟨k + 1, by omega, by go_num, by
          show (xs.take (k + 1)).any (· == n) = false
          have e : (x == n) = false := by have := HB.out; simp at this ⊢; omega
          rw [take_any _ HX.out, hq.out, e]; rfl, trivial⟩
        case measure => simp [intOf]; omega
      · have HB := Lib.hid hb
        go_wp2
        go_ret
        have e : (x == n) = true := by have := HB.out; simp at this ⊢; omega
        exact ⟨k, rfl, by rw [any_of_at (· == n) HX.out e]; exact decide_eq_true (by omega), rfl⟩
    · obtain rfl : sn = k := by omega
      have HD : Hid (xs.any (· == n) = false) := by
        have h1 : (xs.take sn).any (· == n) = false := hq
        rwa [take_len HL.out] at h1
      clear hq
      go_wp2
      go_ret
      exact ⟨-1, rfl, by rw [HD.out]; rfl, rfl⟩
theorem Contains_any (s : Sl) (xs : List Int) (n : Int) (w : World) (h : RdInts w s xs) :
    Calls Tryz.prog 159 #[.slice s.a s.n s.c, .int .i64 n] w fun e w' => e = .returned (.bool (xs.any (· == n))) ∧ w = w' := by
  go_enter Tryz.func159, Tryz.ntmps159
  go_wp2_with (go_at_call 187; refine (Index_any s xs n _ h).mono ?_; rintro e w' ⟨r, rfl, hr, rfl⟩; have HR := Lib.hid hr; clear hr)
  go_ret
  exact ⟨ret_bool HR.out, rfl⟩
end Go.Proofs.YtenfnakhijobkaaGreat
namespace Go.Proofs.YtenfnakhijobkaaGreat
open Go.RowKit Go.Proofs.YtenfnakhijobkaaGreatW.PrintLast

theorem leftL_at {water draft : Int} {air : List Int} {come n j : Nat} (h : j < n) : (leftL water draft air come n)[j]? = some (leftN water draft air come (j + 1)) := by
  unfold leftL
  rw [List.getElem?_map, List.getElem?_range h]; rfl
set_option maxHeartbeats 4000000 in
set_option maxRecDepth 100000 in
theorem right_any (v : LoftV) (l : LoftD) (t : TruthD) (hl : LOk l) (ht : TOk l t) (w : World) (h : RdLoft w v l) :
    Calls Tryz.prog 150 #[.agg v.cs, .agg (numsC (numsF t)), .slice none 0 0] w fun e w' => e = .returned (.bool (tOk l t)) ∧ Below w.heap.size w w' := by
  have HLw : Hid (l.weights.length = v.weights.n) := h.weights.len
  have hw5 : v.weights.n ≤ 5 := by have := hl.weights5; have := HLw.out; omega
  obtain ⟨f, hf⟩ : ∃ f, numsF t = f := ⟨_, rfl⟩
  have HF := Lib.hid hf
  rw [hf]
  clear hf
  obtain ⟨W0, hNW0, BX, hW0, hzW0⟩ := Box.named w (LoftV.cs v) 44
  obtain ⟨W1, hNW1, BX1, hW1, hzW1⟩ := Box.named W0 (numsC f) 228
  have hw1 := below_on hW0 hW1
  have c0 := (BX.lift hW1).cell 0 (.int .i64 v.last) rfl
  have c1 := (BX.lift hW1).cell 1 (.slice v.air.a v.air.n v.air.c) rfl
  have c2 := (BX.lift hW1).cell 2 (.slice v.shelves.a v.shelves.n v.shelves.c) rfl
  have c3 := (BX.lift hW1).cell 3 (.slice v.cakes.a v.cakes.n v.cakes.c) rfl
  have c4 := (BX.lift hW1).cell 4 (.slice v.put.a v.put.n v.put.c) rfl
  have c5 := (BX.lift hW1).cell 5 (.slice v.weights.a v.weights.n v.weights.c) rfl
  go_enter Tryz.func150, Tryz.ntmps150
  go_wp2
  clear hNW0 hNW1 c0 c1 c2 c3 c4 c5
  go_loopw [13] (fun i wr => ∃ k : Nat, k ≤ v.weights.n ∧ i = .int .i64 k ∧ Hid ((l.weights.take k).all (wRight l t) = true) ∧ Below W1.heap.size W1 wr) (fun i _ => v.weights.n - (intOf i).toNat)
  case atStart => exact ⟨0, Nat.zero_le _, rfl, by simp [Hid], Below.refl _ _⟩
  case round =>
    obtain ⟨k, hk, rfl, hq, hb⟩ := hrel
    have hw := below_on hw1 hb
    by_cases hlt : k < v.weights.n
    · obtain ⟨x, hx⟩ := at_of_lt HLw.out hlt
      have HX := Lib.hid hx
      obtain ⟨kn, sn, dn, n, ck, bd, water, come, WK⟩ := hl.wOk ht (List.mem_of_getElem? hx)
      obtain ⟨b, o, ha, hbl, hc1, hc2, hc3, hc4⟩ := h.weights.weight_at hx
      obtain ⟨pb, po, hpa, hpl, hp1⟩ := h.put.int_at WK.put
      obtain ⟨cb, co, hca, hcl, hcc, _⟩ := h.cakes.cake_at WK.hck
      rw [WK.hcome] at hcc
      have hkp : kn < v.put.n := by rw [← h.put.len]; exact lt_of_at WK.put
      have hkc : kn < v.cakes.n := by rw [← h.cakes.len]; exact lt_of_at WK.hck
      have hcm := (hl.cakes ck (List.mem_of_getElem? WK.hck))
      rw [WK.hcome] at hcm
      obtain ⟨nf, hnf⟩ : ∃ nf, come + nf = l.air.length := ⟨l.air.length - come, by have := hl.air; omega⟩
      have hfit := WK.fits
      have hdc : dn + 1 = come + n := WK.hn
      have hn1 : 1 ≤ n := by
        have h1 := hl.weights x (List.mem_of_getElem? hx)
        simp only [LoftD.weightOk, Bool.and_eq_true, inB_iff] at h1
        have h2 := h1.1.2.1
        rw [WK.cake, WK.day, LoftD.come, gI_nat, WK.hck] at h2
        simp only at h2
        rw [WK.hcome] at h2
        omega
      obtain ⟨j, hj⟩ : ∃ j : Nat, n = j + 1 := ⟨n - 1, by omega⟩
      have hjf : j < nf := by omega
      have hsub : (dn : Int) - (come : Int) = (j : Int) := by omega
      have hnf6 : nf ≤ 6 := by have := hl.air; have := hl.last5; omega
      have hdn6 : dn ≤ 6 := by have := hl.air; have := hl.last5; omega
      have hcome6 : come ≤ 6 := by have := hl.air; have := hl.last5; omega
      have HSUB := Lib.hid hsub
      have HJ := Lib.hid hj
      have HJF := Lib.hid hjf
      have HNF := Lib.hid hnf
      have HA := Lib.hid ha
      have HPA := Lib.hid hpa
      have HCA := Lib.hid hca
      have hc1 := lift hw hc1
      have hc2 := lift hw hc2
      have hc3 := lift hw hc3
      have hc4 := lift hw hc4
      rw [WK.cake] at hc1
      rw [WK.day] at hc2
      rw [ha]
      clear hx ha hpa hca hcm hnf hfit hdc hj hsub
      obtain ⟨W3, hNW3, BX3, hW3, hzW3⟩ := Box.named wr #[.int .i64 (kn : Int), .int .i64 (dn : Int), .int .i64 x.water.lo, .int .i64 x.water.hi] 188
      have hw3 := below_on hw hW3
      have hb3 := below_on hb hW3
      have c0 := ((BX.lift hW1).lift hb3).cell 0 (.int .i64 v.last) rfl
      have c1 := ((BX.lift hW1).lift hb3).cell 1 (.slice v.air.a v.air.n v.air.c) rfl
      have c2 := ((BX.lift hW1).lift hb3).cell 2 (.slice v.shelves.a v.shelves.n v.shelves.c) rfl
      have c3 := ((BX.lift hW1).lift hb3).cell 3 (.slice v.cakes.a v.cakes.n v.cakes.c) rfl
      have c4 := ((BX.lift hW1).lift hb3).cell 4 (.slice v.put.a v.put.n v.put.c) rfl
      have c5 := ((BX.lift hW1).lift hb3).cell 5 (.slice v.weights.a v.weights.n v.weights.c) rfl
      rw [HPA.out] at c4
      have n0 := (BX1.lift hb3).cell 0 _ (numsC_at f (by decide))
      have n1 := (BX1.lift hb3).cell 1 _ (numsC_at f (by decide))
      have n2 := (BX1.lift hb3).cell 2 _ (numsC_at f (by decide))
      have n3 := (BX1.lift hb3).cell 3 _ (numsC_at f (by decide))
      have n4 := (BX1.lift hb3).cell 4 _ (numsC_at f (by decide))
      have n5 := (BX1.lift hb3).cell 5 _ (numsC_at f (by decide))
      have n6 := (BX1.lift hb3).cell 6 _ (numsC_at f (by decide))
      have n7 := (BX1.lift hb3).cell 7 _ (numsC_at f (by decide))
      have n8 := (BX1.lift hb3).cell 8 _ (numsC_at f (by decide))
      have n9 := (BX1.lift hb3).cell 9 _ (numsC_at f (by decide))
      have n10 := (BX1.lift hb3).cell 10 _ (numsC_at f (by decide))
      have e0 := BX3.cell 0 (.int .i64 kn) rfl
      have e1 := BX3.cell 1 (.int .i64 dn) rfl
      have e2 := BX3.cell 2 (.int .i64 x.water.lo) rfl
      have e3 := BX3.cell 3 (.int .i64 x.water.hi) rfl
      have kp := lift hw3 hp1
      have kc := lift hw3 hcc
      go_wp2_with (go_at_call 159; refine (Contains_any ⟨none, 0, 0⟩ [] _ _ (rd_nil _ _ _ _ _)).mono ?_; rintro e w' ⟨rfl, rfl⟩)
      clear hNW3
      have hL := left_any v l t hl ht sn kn bd ck WK.hbd WK.hck come WK.hcome water WK.hwater nf HNF.out W3.drew (h.below (hw3.trans ((below_drew W3).mono hw3.size)))
      rw [HF.out] at hL
      have HL := Lib.hid hL
      clear hL
      refine start_ (n := 13) (S := fun w' => w'.cell? ⟨w.heap.size, 0, none⟩ = some (.int .i64 v.last) ∧ w'.cell? ⟨w.heap.size, 1, none⟩ = some (.slice v.air.a v.air.n v.air.c) ∧ w'.cell? ⟨w.heap.size, 2, none⟩ = some (.slice v.shelves.a v.shelves.n v.shelves.c) ∧ w'.cell? ⟨w.heap.size, 3, none⟩ = some (.slice v.cakes.a v.cakes.n v.cakes.c) ∧ w'.cell? ⟨w.heap.size, 4, none⟩ = some (.slice (some ⟨pb, po, none⟩) v.put.n v.put.c) ∧ w'.cell? ⟨w.heap.size, 5, none⟩ = some (.slice v.weights.a v.weights.n v.weights.c) ∧ w'.cell? ⟨W0.heap.size, 0, none⟩ = some (.int .i64 (f 0)) ∧ w'.cell? ⟨W0.heap.size, 1, none⟩ = some (.int .i64 (f 1)) ∧ w'.cell? ⟨W0.heap.size, 2, none⟩ = some (.int .i64 (f 2)) ∧ w'.cell? ⟨W0.heap.size, 3, none⟩ = some (.int .i64 (f 3)) ∧ w'.cell? ⟨W0.heap.size, 4, none⟩ = some (.int .i64 (f 4)) ∧ w'.cell? ⟨W0.heap.size, 5, none⟩ = some (.int .i64 (f 5)) ∧ w'.cell? ⟨W0.heap.size, 6, none⟩ = some (.int .i64 (f 6)) ∧ w'.cell? ⟨W0.heap.size, 7, none⟩ = some (.int .i64 (f 7)) ∧ w'.cell? ⟨W0.heap.size, 8, none⟩ = some (.int .i64 (f 8)) ∧ w'.cell? ⟨W0.heap.size, 9, none⟩ = some (.int .i64 (f 9)) ∧ w'.cell? ⟨W0.heap.size, 10, none⟩ = some (.int .i64 (f 10)) ∧ w'.cell? ⟨wr.heap.size, 0, none⟩ = some (.int .i64 (kn : Int)) ∧ w'.cell? ⟨pb, po + kn, none⟩ = some (.int .i64 (sn : Int))) (ds := []) #[false, false, false, false, false, false, false, false, false, false, false, false, false] (by kernel_rfl) rfl rfl ⟨c0, c1, c2, c3, c4, c5, n0, n1, n2, n3, n4, n5, n6, n7, n8, n9, n10, e0, kp⟩ (fun hHeld => ?_)
      obtain ⟨s0, s1, s2, s3, s4, s5, s6, s7, s8, s9, s10, s11, s12, s13, s14, s15, s16, s17, s18⟩ := hHeld
      refine pure_ (i := 2) (N := some 23) (v := ?_) (a' := ?_) #[false, false, true, false, false, false, false, false, false, false, false, false, false] rfl rfl (by kernel_rfl) (fun _ _ _ h => h) (Or.inl ⟨by rfl, ?_⟩) ?_ ?_
      rotate_left
      · intro w'
        go_simp
        with_reducible rfl
      rotate_left
      · simp only [Act.put, List.setIfInBounds_toArray, List.set_cons_zero, List.set_cons_succ, i64_w, i32_w]
        rfl
      refine pure_ (i := 4) (N := some 25) (v := ?_) (a' := ?_) #[false, false, true, false, true, false, false, false, false, false, false, false, false] rfl rfl (by kernel_rfl) (fun _ _ _ h => h) (Or.inl ⟨by rfl, ?_⟩) ?_ ?_
      rotate_left
      · intro w'
        go_simp
        with_reducible rfl
      rotate_left
      · simp only [Act.put, List.setIfInBounds_toArray, List.set_cons_zero, List.set_cons_succ, i64_w, i32_w]
        rfl
      refine pure_ (i := 6) (N := some 27) (v := ?_) (a' := ?_) #[false, false, true, false, true, false, true, false, false, false, false, false, false] rfl rfl (by kernel_rfl) (fun _ _ _ h => h) (Or.inl ⟨by rfl, ?_⟩) ?_ ?_
      rotate_left
      · intro w'
        go_simp
        with_reducible rfl
      rotate_left
      · simp only [Act.put, List.setIfInBounds_toArray, List.set_cons_zero, List.set_cons_succ, i64_w, i32_w]
        rfl
      refine take_ (i := 0) (N := some 21) (v := ?_) (a' := ?_) #[true, false, true, false, true, false, true, false, false, false, false, false, false] rfl rfl (by kernel_rfl) (fun _ _ _ h => h) (Or.inl ⟨by rfl, ?_⟩) ⟨s0, s1, s2, s3, s4, s5, s6, s7, s8, s9, s10, s11, s12, s13, s14, s15, s16, s17, s18⟩ ?_ ?_
      rotate_left
      · rintro w' ⟨zs0, zs1, zs2, zs3, zs4, zs5, zs6, zs7, zs8, zs9, zs10, zs11, zs12, zs13, zs14, zs15, zs16, zs17, zs18⟩
        go_simp
        with_reducible rfl
      rotate_left
      · simp only [Act.put, List.setIfInBounds_toArray, List.set_cons_zero, List.set_cons_succ, i64_w, i32_w]
        rfl
      refine take_ (i := 1) (N := some 22) (v := ?_) (a' := ?_) #[true, true, true, false, true, false, true, false, false, false, false, false, false] rfl rfl (by kernel_rfl) (fun _ _ _ h => h) (Or.inl ⟨by rfl, ?_⟩) ⟨s0, s1, s2, s3, s4, s5, s6, s7, s8, s9, s10, s11, s12, s13, s14, s15, s16, s17, s18⟩ ?_ ?_
      rotate_left
      · rintro w' ⟨zs0, zs1, zs2, zs3, zs4, zs5, zs6, zs7, zs8, zs9, zs10, zs11, zs12, zs13, zs14, zs15, zs16, zs17, zs18⟩
        go_simp
        with_reducible rfl
      rotate_left
      · simp only [Act.put, List.setIfInBounds_toArray, List.set_cons_zero, List.set_cons_succ, i64_w, i32_w]
        rfl
      refine take_ (i := 3) (N := some 24) (v := ?_) (a' := ?_) #[true, true, true, true, true, false, true, false, false, false, false, false, false] rfl rfl (by kernel_rfl) (fun _ _ _ h => h) (Or.inl ⟨by rfl, ?_⟩) ⟨s0, s1, s2, s3, s4, s5, s6, s7, s8, s9, s10, s11, s12, s13, s14, s15, s16, s17, s18⟩ ?_ ?_
      rotate_left
      · rintro w' ⟨zs0, zs1, zs2, zs3, zs4, zs5, zs6, zs7, zs8, zs9, zs10, zs11, zs12, zs13, zs14, zs15, zs16, zs17, zs18⟩
        go_simp
        with_reducible rfl
      rotate_left
      · simp only [Act.put, List.setIfInBounds_toArray, List.set_cons_zero, List.set_cons_succ, i64_w, i32_w]
        rfl
      refine take_ (i := 5) (N := some 26) (v := ?_) (a' := ?_) #[true, true, true, true, true, true, true, false, false, false, false, false, false] rfl rfl (by kernel_rfl) (fun _ _ _ h => h) (Or.inl ⟨by rfl, ?_⟩) ⟨s0, s1, s2, s3, s4, s5, s6, s7, s8, s9, s10, s11, s12, s13, s14, s15, s16, s17, s18⟩ ?_ ?_
      rotate_left
      · rintro w' ⟨zs0, zs1, zs2, zs3, zs4, zs5, zs6, zs7, zs8, zs9, zs10, zs11, zs12, zs13, zs14, zs15, zs16, zs17, zs18⟩
        go_simp
        with_reducible rfl
      rotate_left
      · simp only [Act.put, List.setIfInBounds_toArray, List.set_cons_zero, List.set_cons_succ, i64_w, i32_w]
        rfl
      refine take_ (i := 7) (N := some 28) (v := ?_) (a' := ?_) #[true, true, true, true, true, true, true, true, false, false, false, false, false] rfl rfl (by kernel_rfl) (fun _ _ _ h => h) (Or.inl ⟨by rfl, ?_⟩) ⟨s0, s1, s2, s3, s4, s5, s6, s7, s8, s9, s10, s11, s12, s13, s14, s15, s16, s17, s18⟩ ?_ ?_
      rotate_left
      · rintro w' ⟨zs0, zs1, zs2, zs3, zs4, zs5, zs6, zs7, zs8, zs9, zs10, zs11, zs12, zs13, zs14, zs15, zs16, zs17, zs18⟩
        go_simp
        with_reducible rfl
      rotate_left
      · simp only [Act.put, List.setIfInBounds_toArray, List.set_cons_zero, List.set_cons_succ, i64_w, i32_w]
        rfl
      refine pure_ (i := 8) (N := some 29) (v := ?_) (a' := ?_) #[true, true, true, true, true, true, true, true, true, false, false, false, false] rfl rfl (by kernel_rfl) (fun _ _ _ h => h) (Or.inl ⟨by rfl, ?_⟩) ?_ ?_
      rotate_left
      · intro w'
        go_simp
        with_reducible rfl
      rotate_left
      · simp only [Act.put, List.setIfInBounds_toArray, List.set_cons_zero, List.set_cons_succ, i64_w, i32_w]
        rfl
      refine take_ (i := 9) (N := some 30) (v := ?_) (a' := ?_) #[true, true, true, true, true, true, true, true, true, true, false, false, false] rfl rfl (by kernel_rfl) (fun _ _ _ h => h) (Or.inl ⟨by rfl, ?_⟩) ⟨s0, s1, s2, s3, s4, s5, s6, s7, s8, s9, s10, s11, s12, s13, s14, s15, s16, s17, s18⟩ ?_ ?_
      rotate_left
      · rintro w' ⟨zs0, zs1, zs2, zs3, zs4, zs5, zs6, zs7, zs8, zs9, zs10, zs11, zs12, zs13, zs14, zs15, zs16, zs17, zs18⟩
        go_simp
        with_reducible rfl
      rotate_left
      · simp only [Act.put, List.setIfInBounds_toArray, List.set_cons_zero, List.set_cons_succ, i64_w, i32_w]
        rfl
      refine pure_ (i := 10) (N := some 31) (v := ?_) (a' := ?_) #[true, true, true, true, true, true, true, true, true, true, true, false, false] rfl rfl (by kernel_rfl) (fun _ _ _ h => h) (Or.inl ⟨by rfl, ?_⟩) ?_ ?_
      rotate_left
      · intro w'
        go_simp
        with_reducible rfl
      rotate_left
      · simp only [Act.put, List.setIfInBounds_toArray, List.set_cons_zero, List.set_cons_succ, i64_w, i32_w]
        rfl
      refine one_ (i := 11) (N := some 32) #[true, true, true, true, true, true, true, true, true, true, true, true, false] rfl rfl (by kernel_rfl) (by decide) (fun K hK => ?_)
      refine goes_ Tryz.func181 (by kernel_rfl) rfl #[.agg #[.int .i64 v.last, .slice v.air.a v.air.n v.air.c, .slice v.shelves.a v.shelves.n v.shelves.c, .slice v.cakes.a v.cakes.n v.cakes.c, .slice (some ⟨pb, po, none⟩) v.put.n v.put.c, .slice v.weights.a v.weights.n v.weights.c], .agg (numsC f), .agg #[.int .i64 (kn : Int), .int .i64 (sn : Int)]] (by rfl) rfl rfl (by (try simp only [List.map_toArray, List.map_cons, List.map_nil]); first | done | rfl) ?_
      rw [← HPA.out]
      refine HL.out.mono ?_
      rintro e w4 ⟨⟨ra, rn, rc⟩, rfl, hfr, hb4⟩
      refine ⟨_, rfl, ?_⟩
      refine hK.out _ _ ⟨lift hb4 s0, lift hb4 s1, lift hb4 s2, lift hb4 s3, lift hb4 s4, lift hb4 s5, lift hb4 s6, lift hb4 s7, lift hb4 s8, lift hb4 s9, lift hb4 s10, lift hb4 s11, lift hb4 s12, lift hb4 s13, lift hb4 s14, lift hb4 s15, lift hb4 s16, lift hb4 s17, lift hb4 s18⟩ (fun hHeld => ?_)
      clear hK K s0 s1 s2 s3 s4 s5 s6 s7 s8 s9 s10 s11 s12 s13 s14 s15 s16 s17 s18
      obtain ⟨s0, s1, s2, s3, s4, s5, s6, s7, s8, s9, s10, s11, s12, s13, s14, s15, s16, s17, s18⟩ := hHeld
      refine norm_ (a' := ?_) ?_ ?_
      rotate_left
      · show Act.put _ (some 32) _ = _
        simp only [Act.put, List.setIfInBounds_toArray, List.set_cons_zero, List.set_cons_succ, i64_w, i32_w]
        rfl
      refine pure_ (i := 12) (N := some 9) (v := ?_) (a' := ?_) #[true, true, true, true, true, true, true, true, true, true, true, true, true] rfl rfl (by kernel_rfl) (fun _ _ _ h => h) (Or.inl ⟨by rfl, ?_⟩) ?_ ?_
      rotate_left
      · intro w'
        go_simp
        with_reducible rfl
      rotate_left
      · simp only [Act.put, List.setIfInBounds_toArray, List.set_cons_zero, List.set_cons_succ, i64_w, i32_w]
        rfl
      refine done_ (by kernel_rfl) ?_
      have hb43 : Below W3.heap.size W3 w4 := below_on (below_drew W3) hb4
      have hbx := below_on hb3 hb43
      have hwx := below_on hw3 hb43
      obtain ⟨lb, lo, hra, hlb, hlc⟩ := hfr.now.int_at (leftL_at HJF.out)
      have hrn : nf = rn := by have := hfr.now.len; simpa [leftL] using this
      simp only at hra
      subst hra
      have hjrn : j < rn := by have := HJF.out; omega
      have hsub := HSUB.out
      have c3 := ((BX.lift hW1).lift hbx).cell 3 (.slice v.cakes.a v.cakes.n v.cakes.c) rfl
      rw [HCA.out] at c3
      have d0 := lift hb43 e0
      have d1 := lift hb43 e1
      have d2 := lift hb43 e2
      have d3 := lift hb43 e3
      have kc := lift hb43 kc
      have HWR : Hid (wRight l t x = inB (leftN water bd.draft t.air come (j + 1)) x.water.lo x.water.hi) := by show _ = _; rw [← HJ.out]; exact WK.right
      clear hrn
      go_wp2
      cases hwr : inB (leftN water bd.draft t.air come (j + 1)) x.water.lo x.water.hi
      · have HW := Lib.hid hwr
        have zz0 := fun x : After w4 => At.cell c3 x
        have zz1 := fun x : After w4 => At.cell d0 x
        have zz2 := fun x : After w4 => At.cell d1 x
        have zz3 := fun x : After w4 => At.cell d2 x
        have zz4 := fun x : After w4 => At.cell d3 x
        have zz5 := fun x : After w4 => At.cell kc x
        have zz6 := fun x : After w4 => At.cell hlc x
        refine wp_region_after (by kernel_rfl) (by kernel_rfl) ?_
        repeat (go_big_quiet_step ((go_at_call 182; exact after_call (call_b (has_any _ _ _ _) hwr))))
        refine wpQuiet_nil ?_
        intro W5 hbW5
        clear zz0 zz1 zz2 zz3 zz4 zz5 zz6
        go_wp2
        go_ret
        refine ⟨ret_bool ?_, below_on hwx hbW5⟩
        symm
        exact all_of_at (wRight l t) HX.out (HWR.out.trans HW.out)
      · have HW := Lib.hid hwr
        have zz0 := fun x : After w4 => At.cell c3 x
        have zz1 := fun x : After w4 => At.cell d0 x
        have zz2 := fun x : After w4 => At.cell d1 x
        have zz3 := fun x : After w4 => At.cell d2 x
        have zz4 := fun x : After w4 => At.cell d3 x
        have zz5 := fun x : After w4 => At.cell kc x
        have zz6 := fun x : After w4 => At.cell hlc x
        refine wp_region_after (by kernel_rfl) (by kernel_rfl) ?_
        repeat (go_big_quiet_step ((go_at_call 182; exact after_call (call_b (has_any _ _ _ _) hwr))))
        refine wpQuiet_nil ?_
        intro W5 hbW5
        clear zz0 zz1 zz2 zz3 zz4 zz5 zz6
        go_wp2
        go_roundw
        case rel => exact ⟨k + 1, by omega, by go_num, by
          show (l.weights.take (k + 1)).all _ = true
          rw [take_all _ HX.out, hq.out, HWR.out, HW.out]; rfl, below_on hbx hbW5⟩
        case measure => simp [intOf]; omega
    · obtain rfl : k = v.weights.n := by omega
      have HQ : Hid (tOk l t = true) := by
        have h1 := hq.out
        rwa [take_len HLw.out] at h1
      clear hq
      go_wp2
      go_ret
      exact ⟨ret_bool HQ.out.symm, hw⟩
end Go.Proofs.YtenfnakhijobkaaGreat
namespace Go.Proofs.YtenfnakhijobkaaGreat
open Go.RowKit Go.Proofs.YtenfnakhijobkaaGreatW.PrintLast

theorem Min2_any (b o c : Nat) (x y : Int) (w : World) (hx : w.cell? ⟨b, o, none⟩ = some (.int .i64 x)) (hy : w.cell? ⟨b, o + 1, none⟩ = some (.int .i64 y)) :
    Calls Tryz.prog 164 #[.slice (some ⟨b, o, none⟩) 2 c] w fun e w' => e = .returned (.int .i64 (min x y)) ∧ w = w' := by
  go_enter Tryz.func164, Tryz.ntmps164
  go_wp2
  go_loopw [3, 4] (fun r i wr => ((i = .int .i64 1 ∧ r = .int .i64 x) ∨ (i = .int .i64 2 ∧ r = .int .i64 (min x y))) ∧ w = wr) (fun _ i _ => 2 - (intOf i).toNat)
  case atStart => exact ⟨Or.inl ⟨rfl, rfl⟩, rfl⟩
  case round =>
    obtain ⟨⟨rfl, rfl⟩ | ⟨rfl, rfl⟩, rfl⟩ := hrel
    · go_wp2
      all_goals go_roundw
      all_goals first | (refine ⟨Or.inr ⟨by go_num, ?_⟩, trivial⟩; congr 1; omega) | (simp [intOf])
    · go_wp2
      go_ret
      exact ⟨rfl, rfl⟩
theorem minimum_any (b o c : Nat) (x y : Int) (w : World) (hx : w.cell? ⟨b, o, none⟩ = some (.int .i64 x)) (hy : w.cell? ⟨b, o + 1, none⟩ = some (.int .i64 y)) :
    Calls Tryz.prog 177 #[.slice (some ⟨b, o, none⟩) 2 c] w fun e w' => e = .returned (.int .i64 (min x y)) ∧ w = w' := by
  go_enter Tryz.func177, Tryz.ntmps177
  go_wp2_with (go_at_call 164; refine (Min2_any b o c x y _ hx hy).mono ?_; rintro e w' ⟨rfl, rfl⟩)
  go_ret
  exact ⟨rfl, rfl⟩

def Rg.wider (r : Rg) (n : Int) : Rg := ⟨min r.lo n, max r.hi n⟩
set_option maxHeartbeats 4000000 in
set_option maxRecDepth 100000 in
theorem wider_any (lo hi n : Int) (w : World) :
    Calls Tryz.prog 201 #[.agg #[.int .i64 lo, .int .i64 hi], .int .i64 n] w fun e w' => e = .returned (.agg #[.int .i64 (min lo n), .int .i64 (max hi n)]) ∧ Below w.heap.size w w' := by
  have hmax : (if hi < n then n else hi) = max hi n := by omega
  go_enter Tryz.func201, Tryz.ntmps201
  go_wp2
  obtain ⟨W0, hNW0, BX, hW0, hzW0⟩ := Box.named w #[.int .i64 lo, .int .i64 hi] 178
  rw [hNW0]
  clear hNW0
  rw [show w.heap.size + 1 = W0.heap.size from hzW0.out.symm]
  obtain ⟨W1, hNW1, BX1, hW1, hzW1⟩ := Box.named W0 #[.int .i64 0, .int .i64 0] 178
  rw [hNW1]
  clear hNW1
  have e0 := (BX.lift hW1).cell 0 (.int .i64 lo) rfl
  have e1 := (BX.lift hW1).cell 1 (.int .i64 hi) rfl
  have hw1 := below_on hW0 hW1
  refine start_ (n := 11) (S := fun w' => w'.cell? ⟨w.heap.size, 0, none⟩ = some (.int .i64 lo) ∧ w'.cell? ⟨w.heap.size, 1, none⟩ = some (.int .i64 hi)) (ds := [10]) #[false, false, false, false, false, false, false, false, false, false, false] (by kernel_rfl) rfl rfl ⟨e0, e1⟩ (fun hHeld => ?_)
  obtain ⟨s0, s1⟩ := hHeld
  refine pure_ (i := 0) (N := some 5) (v := ?_) (a' := ?_) #[true, false, false, false, false, false, false, false, false, false, false] rfl rfl (by kernel_rfl) (fun _ _ _ h => h) (Or.inl ⟨by rfl, ?_⟩) ?_ ?_
  rotate_left
  · intro w'
    go_simp
    with_reducible rfl
  rotate_left
  · simp only [Act.put, List.setIfInBounds_toArray, List.set_cons_zero, List.set_cons_succ, i64_w, i32_w]
    rfl
  refine pure_ (i := 2) (N := some 7) (v := ?_) (a' := ?_) #[true, false, true, false, false, false, false, false, false, false, false] rfl rfl (by kernel_rfl) (fun _ _ _ h => h) (Or.inl ⟨by rfl, ?_⟩) ?_ ?_
  rotate_left
  · intro w'
    go_simp
    with_reducible rfl
  rotate_left
  · simp only [Act.put, List.setIfInBounds_toArray, List.set_cons_zero, List.set_cons_succ, i64_w, i32_w]
    rfl
  refine pure_ (i := 5) (N := some 10) (v := ?_) (a' := ?_) #[true, false, true, false, false, true, false, false, false, false, false] rfl rfl (by kernel_rfl) (fun _ _ _ h => h) (Or.inl ⟨by rfl, ?_⟩) ?_ ?_
  rotate_left
  · intro w'
    go_simp
    with_reducible rfl
  rotate_left
  · simp only [Act.put, List.setIfInBounds_toArray, List.set_cons_zero, List.set_cons_succ, i64_w, i32_w]
    rfl
  refine pure_ (i := 7) (N := some 12) (v := ?_) (a' := ?_) #[true, false, true, false, false, true, false, true, false, false, false] rfl rfl (by kernel_rfl) (fun _ _ _ h => h) (Or.inl ⟨by rfl, ?_⟩) ?_ ?_
  rotate_left
  · intro w'
    go_simp
    with_reducible rfl
  rotate_left
  · simp only [Act.put, List.setIfInBounds_toArray, List.set_cons_zero, List.set_cons_succ, i64_w, i32_w]
    rfl
  refine take_ (i := 1) (N := some 6) (v := ?_) (a' := ?_) #[true, true, true, false, false, true, false, true, false, false, false] rfl rfl (by kernel_rfl) (fun _ _ _ h => h) (Or.inl ⟨by rfl, ?_⟩) ⟨s0, s1⟩ ?_ ?_
  rotate_left
  · rintro w' ⟨zs0, zs1⟩
    go_simp
    with_reducible rfl
  rotate_left
  · simp only [Act.put, List.setIfInBounds_toArray, List.set_cons_zero, List.set_cons_succ, i64_w, i32_w]
    rfl
  refine take_ (i := 6) (N := some 11) (v := ?_) (a' := ?_) #[true, true, true, false, false, true, true, true, false, false, false] rfl rfl (by kernel_rfl) (fun _ _ _ h => h) (Or.inl ⟨by rfl, ?_⟩) ⟨s0, s1⟩ ?_ ?_
  rotate_left
  · rintro w' ⟨zs0, zs1⟩
    go_simp
    with_reducible rfl
  rotate_left
  · simp only [Act.put, List.setIfInBounds_toArray, List.set_cons_zero, List.set_cons_succ, i64_w, i32_w]
    rfl
  refine pure_ (i := 8) (N := some 13) (v := ?_) (a' := ?_) #[true, true, true, false, false, true, true, true, true, false, false] rfl rfl (by kernel_rfl) (fun _ _ _ h => h) (Or.inl ⟨by rfl, ?_⟩) ?_ ?_
  rotate_left
  · intro w'
    go_simp
    with_reducible rfl
  rotate_left
  · simp only [Act.put, List.setIfInBounds_toArray, List.set_cons_zero, List.set_cons_succ, i64_w, i32_w]
    rfl
  refine one_ (i := 3) (N := some 8) #[true, true, true, true, false, true, true, true, true, false, false] rfl rfl (by kernel_rfl) (by decide) (fun K hK => ?_)
  refine value_ (w1 := ?_) (v := ?_) (by rfl) rfl ?_ ?_
  rotate_left 2
  · go_simp
    constructor
    · rfl
    · rfl
  refine hK.out _ _ ⟨lift (below_box _ _) s0, lift (below_box _ _) s1⟩ (fun hHeld => ?_)
  clear hK K s0 s1
  obtain ⟨s0, s1⟩ := hHeld
  refine norm_ (a' := ?_) ?_ ?_
  rotate_left
  · show Act.put _ (some 8) _ = _
    simp only [Act.put, List.setIfInBounds_toArray, List.set_cons_zero, List.set_cons_succ, i64_w, i32_w]
    rfl
  refine one_ (i := 4) (N := some 9) #[true, true, true, true, true, true, true, true, true, false, false] rfl rfl (by kernel_rfl) (by decide) (fun K hK => ?_)
  refine goes_ Tryz.func177 (by kernel_rfl) rfl #[.slice (some ⟨W1.heap.size, 0, none⟩) 2 2] (by rfl) rfl rfl (by (try simp only [List.map_toArray, List.map_cons, List.map_nil]); first | done | rfl) ?_
  refine (minimum_any W1.heap.size 0 2 lo n _ (lift (below_drew _) ((Box.new W1 #[.int .i64 lo, .int .i64 n] 3).cell 0 _ rfl)) (lift (below_drew _) ((Box.new W1 #[.int .i64 lo, .int .i64 n] 3).cell 1 _ rfl))).mono ?_
  rintro e w3 ⟨rfl, rfl⟩
  refine ⟨_, rfl, ?_⟩
  refine hK.out _ _ ⟨s0, s1⟩ (fun hHeld => ?_)
  clear hK K s0 s1
  obtain ⟨s0, s1⟩ := hHeld
  refine norm_ (a' := ?_) ?_ ?_
  rotate_left
  · show Act.put _ (some 9) _ = _
    simp only [Act.put, List.setIfInBounds_toArray, List.set_cons_zero, List.set_cons_succ, i64_w, i32_w]
    rfl
  refine pure_ (i := 9) (N := some 14) (v := ?_) (a' := ?_) #[true, true, true, true, true, true, true, true, true, true, false] rfl rfl (by kernel_rfl) (fun _ _ _ h => h) (Or.inl ⟨by rfl, ?_⟩) ?_ ?_
  rotate_left
  · intro w'
    go_simp
    with_reducible rfl
  rotate_left
  · simp only [Act.put, List.setIfInBounds_toArray, List.set_cons_zero, List.set_cons_succ, i64_w, i32_w]
    rfl
  refine last_ (i := 10) (N := none) #[true, true, true, true, true, true, true, true, true, true, true] rfl rfl (by kernel_rfl) (by decide) (fun K hK => ?_)
  have B3 := BX1.lift (below_box W1 (.cells #[.int .i64 lo, .int .i64 n] 3))
  have kf0 := B3.free 0
  have kf1 := B3.free 1
  have kc0 := B3.cell 0 (.int .i64 0) rfl
  have kc1 := B3.cell 1 (.int .i64 0) rfl
  refine skip_ (w1 := ?_) (by rfl) rfl ?_ ?_
  rotate_left
  · go_simp
    rfl
  refine hK.out _ _ ?_
  clear hK K
  clear s0 s1
  refine done_ (by kernel_rfl) ?_
  have B4 := (B3.set 0 (.int .i64 (min lo n))).set 1 (.int .i64 (max hi n))
  have z0 := B4.cell 0 (.int .i64 (min lo n)) rfl
  have z1 := B4.cell 1 (.int .i64 (max hi n)) rfl
  go_wp2
  refine bodyPost_ret (v := .agg #[.int .i64 (min lo n), .int .i64 (max hi n)]) (by simp [results, Tryz.results201, go_sem, z0, z1]) rfl ?_
  refine ⟨rfl, ?_⟩
  have hq : Below w.heap.size w (W1.alloc (.cells #[.int .i64 lo, .int .i64 n] 3)) := below_on hw1 (below_box _ _)
  exact (below_set (below_set hq (by have := hW0.size; omega) _) (by have := hW0.size; omega) _).drew
end Go.Proofs.YtenfnakhijobkaaGreat
namespace Go.Proofs.YtenfnakhijobkaaGreat
open Go.RowKit Go.Proofs.YtenfnakhijobkaaGreatW.PrintLast

theorem cnt_pos {xs : List Int} {s : Int} (h : 0 < cnt xs s) : s ∈ xs := by
  unfold cnt at h
  cases hf : xs.filter (· == s) with
  | nil => rw [hf] at h; simp at h
  | cons a b =>
    have : a ∈ xs.filter (· == s) := by rw [hf]; simp
    rw [List.mem_filter] at this
    have e := this.2
    simp at e
    rw [← e]; exact this.1
theorem isPlace_len {l : LoftD} {p : List Int} (h : p.length ≠ l.cakes.length) : false = isPlace l p := by
  rw [isPlace, decide_eq_false h, Bool.false_and]
theorem isPlace_in {l : LoftD} {p : List Int} {k : Nat} {x : Int} (hx : p[k]? = some x) (h : inB x 0 (l.shelves.length - 1) = false) : false = isPlace l p := by
  have : p.all (placeOk l p) = false := all_of_at _ hx (by rw [placeOk, h]; rfl)
  rw [isPlace, this, Bool.and_false]
theorem isPlace_room {l : LoftD} {p : List Int} {k : Nat} {b : BoardD} (hb : l.shelves[k]? = some b) (h0 : 0 ≤ b.room) (h : b.room < cnt p k) : false = isPlace l p := by
  obtain ⟨j, hj⟩ := List.getElem?_of_mem (cnt_pos (show 0 < cnt p k by omega))
  have e : roomOf l (k : Int) = b.room := by simp only [roomOf, gI_nat, hb]
  have : p.all (placeOk l p) = false := all_of_at _ hj (by rw [placeOk, e, decide_eq_false (by omega), Bool.and_false])
  rw [isPlace, this, Bool.and_false]
theorem isPlace_yes {l : LoftD} {p : List Int} (hl : p.length = l.cakes.length) (h1 : p.all (fun x => inB x 0 (l.shelves.length - 1)) = true) (h2 : ∀ (k : Nat) (b : BoardD), l.shelves[k]? = some b → cnt p k ≤ b.room) : true = isPlace l p := by
  symm
  rw [isPlace, decide_eq_true hl, Bool.true_and, List.all_eq_true]
  intro x hx
  have h3 := List.all_eq_true.1 h1 x hx
  have h4 := inB_iff.1 h3
  obtain ⟨s, rfl⟩ := Int.eq_ofNat_of_zero_le h4.1
  have hs : l.shelves[s]? = some l.shelves[s] := List.getElem?_eq_getElem (by omega)
  rw [placeOk, h3, Bool.true_and, decide_eq_true_eq]
  simp only [roomOf, gI_nat, hs]
  exact h2 s _ hs
abbrev usedC (p : List Int) : Array Value := #[.int .i64 (cnt p 0), .int .i64 (cnt p 1), .int .i64 (cnt p 2)]
set_option maxHeartbeats 2000000 in
theorem isPlaceP_any (v : LoftV) (l : LoftD) (s : Sl) (p : List Int) (w : World) (h : RdLoft w v l) (hp : RdInts w s p) (h3 : l.shelves.length ≤ 3) (h5 : l.cakes.length ≤ 5) (hr : ∀ b ∈ l.shelves, 0 ≤ b.room) :
    Calls Tryz.prog 115 #[.agg v.cs, .slice s.a s.n s.c] w fun e w' => e = .returned (.bool (isPlace l p)) ∧ Below w.heap.size w w' := by
  obtain ⟨sa, sn, sc⟩ := s
  have HL : Hid (p.length = sn) := hp.len
  have HLs : Hid (l.shelves.length = v.shelves.n) := h.shelves.len
  have HLc : Hid (l.cakes.length = v.cakes.n) := h.cakes.len
  have hb3 : v.shelves.n ≤ 3 := by have := HLs.out; omega
  have hc5 : v.cakes.n ≤ 5 := by have := HLc.out; omega
  have hsm : sn ≤ 281474976710656 := by have := hp.small; simp at this; omega
  have HR := Lib.hid hr
  clear hr h3 h5
  by_cases hlen : sn = v.cakes.n
  case neg =>
    have hne : ((sn : Int) != (v.cakes.n : Int)) = true := by simp; omega
    have HLN := Lib.hid hlen
    clear hlen
    go_enter Tryz.func115, Tryz.ntmps115
    go_wp2
    go_ret
    exact ⟨ret_bool (isPlace_len (by rw [HL.out, HLc.out]; exact HLN.out)), below_box _ _⟩
  have hne : ((sn : Int) != (v.cakes.n : Int)) = false := by simp [hlen]
  have hs5 : sn ≤ 5 := by omega
  have HLN := Lib.hid hlen
  clear hlen
  go_enter Tryz.func115, Tryz.ntmps115
  go_wp2
  obtain ⟨W0, hNW0, BX, hW0, hzW0⟩ := Box.named w (LoftV.cs v) 44
  rw [hNW0]
  clear hNW0
  rw [show w.heap.size + 1 = W0.heap.size from hzW0.out.symm]
  obtain ⟨W1, hNW1, BX1, hW1, hzW1⟩ := Box.named W0 #[.int .i64 0, .int .i64 0, .int .i64 0] 230
  rw [hNW1]
  clear hNW1
  go_loopw [18] (fun i wr => ∃ k : Nat, k ≤ sn ∧ i = .int .i64 k ∧ Hid ((p.take k).all (fun x => inB x 0 (l.shelves.length - 1)) = true) ∧ Box wr W0.heap.size (usedC (p.take k)) 230 ∧ Below W0.heap.size W0 wr) (fun i _ => sn - (intOf i).toNat)
  case atStart => exact ⟨0, Nat.zero_le _, rfl, by simp [Hid], BX1, hW1⟩
  case round =>
    obtain ⟨k, hk, rfl, hq, BU, hb⟩ := hrel
    have hw := below_on hW0 hb
    have hlt0 := (BX.lift hb).lt
    have hltU := BU.lt
    have c2 := (BX.lift hb).cell 2 (.slice v.shelves.a v.shelves.n v.shelves.c) rfl
    by_cases hlt : k < sn
    · obtain ⟨x, hx⟩ := at_of_lt HL.out hlt
      obtain ⟨b, o, ha, hbl, hc1⟩ := hp.int_at hx
      have hc1 := lift hw hc1
      have HX := Lib.hid hx
      simp only at ha
      subst ha
      clear hx
      cases hin : inB x 0 (v.shelves.n - 1)
      · have HIN := Lib.hid hin
        go_wp2_with (go_at_call 151; refine (call_b (within_any _ _ _ _) hin).mono ?_; rintro e w' ⟨rfl, rfl⟩)
        go_ret
        exact ⟨ret_bool (isPlace_in HX.out (by rw [HLs.out]; exact HIN.out)), hw⟩
      have HIN := Lib.hid hin
      have hxx := inB_iff.1 hin
      have hcl : ∀ t : Int, 0 ≤ cnt (p.take k) t ∧ cnt (p.take k) t ≤ 5 := fun t => ⟨cnt_nonneg _ _, by have := cnt_le (p.take k) t; have h9 := List.length_take_le k p; omega⟩
      have h0 := hcl 0
      have h1 := hcl 1
      have h2 := hcl 2
      clear hcl
      have hc012 : x = 0 ∨ x = 1 ∨ x = 2 := by omega
      have u0 := BU.cell 0 (.int .i64 (cnt (p.take k) 0)) rfl
      have u1 := BU.cell 1 (.int .i64 (cnt (p.take k) 1)) rfl
      have u2 := BU.cell 2 (.int .i64 (cnt (p.take k) 2)) rfl
      have f0 := BU.free 0
      have f1 := BU.free 1
      have f2 := BU.free 2
      rcases hc012 with rfl | rfl | rfl
      · go_wp2_with (go_at_call 151; refine (call_b (within_any _ _ _ _) hin).mono ?_; rintro e w' ⟨rfl, rfl⟩)
        go_roundw
        case measure => simp [intOf]; omega
        case rel =>
          refine ⟨k + 1, by omega, by go_num, ?_, ?_, below_set hb (Nat.le_refl _) _⟩
          · show (p.take (k + 1)).all _ = true
            rw [take_all _ HX.out, hq.out, HLs.out, HIN.out]; rfl
          · have := BU.set 0 (.int .i64 (cnt (p.take k) 0 + 1))
            rw [show (usedC (p.take k)).setIfInBounds 0 (.int .i64 (cnt (p.take k) 0 + 1)) = usedC (p.take (k + 1)) by
              unfold usedC
              rw [cnt_take 0 HX.out, cnt_take 1 HX.out, cnt_take 2 HX.out]
              simp] at this
            exact this
      · go_wp2_with (go_at_call 151; refine (call_b (within_any _ _ _ _) hin).mono ?_; rintro e w' ⟨rfl, rfl⟩)
        go_roundw
        case measure => simp [intOf]; omega
        case rel =>
          refine ⟨k + 1, by omega, by go_num, ?_, ?_, below_set hb (Nat.le_refl _) _⟩
          · show (p.take (k + 1)).all _ = true
            rw [take_all _ HX.out, hq.out, HLs.out, HIN.out]; rfl
          · have := BU.set 1 (.int .i64 (cnt (p.take k) 1 + 1))
            rw [show (usedC (p.take k)).setIfInBounds 1 (.int .i64 (cnt (p.take k) 1 + 1)) = usedC (p.take (k + 1)) by
              unfold usedC
              rw [cnt_take 0 HX.out, cnt_take 1 HX.out, cnt_take 2 HX.out]
              simp] at this
            exact this
      · go_wp2_with (go_at_call 151; refine (call_b (within_any _ _ _ _) hin).mono ?_; rintro e w' ⟨rfl, rfl⟩)
        go_roundw
        case measure => simp [intOf]; omega
        case rel =>
          refine ⟨k + 1, by omega, by go_num, ?_, ?_, below_set hb (Nat.le_refl _) _⟩
          · show (p.take (k + 1)).all _ = true
            rw [take_all _ HX.out, hq.out, HLs.out, HIN.out]; rfl
          · have := BU.set 2 (.int .i64 (cnt (p.take k) 2 + 1))
            rw [show (usedC (p.take k)).setIfInBounds 2 (.int .i64 (cnt (p.take k) 2 + 1)) = usedC (p.take (k + 1)) by
              unfold usedC
              rw [cnt_take 0 HX.out, cnt_take 1 HX.out, cnt_take 2 HX.out]
              simp] at this
            exact this
    · obtain rfl : sn = k := by omega
      have HQ : Hid (p.all (fun x => inB x 0 (l.shelves.length - 1)) = true) := by
        have h1 := hq.out
        rwa [take_len HL.out] at h1
      rw [take_len HL.out] at BU
      clear hq
      obtain ⟨W2, rfl⟩ : ∃ W2 : World, W2 = wr := ⟨_, rfl⟩
      go_wp2
      go_loopw [38] (fun i wr => ∃ k : Nat, k ≤ v.shelves.n ∧ i = .int .i64 k ∧ Hid (∀ (j : Nat) (b : BoardD), j < k → l.shelves[j]? = some b → cnt p j ≤ b.room) ∧ Below W2.heap.size W2 wr) (fun i _ => v.shelves.n - (intOf i).toNat)
      case atStart => exact ⟨0, Nat.zero_le _, rfl, by show ∀ j b, _; intro j b hj; omega, Below.refl _ _⟩
      case round =>
        obtain ⟨k, hk, rfl, hq, hb2⟩ := hrel
        have hw2 := below_on hw hb2
        by_cases hlt : k < v.shelves.n
        · obtain ⟨y, hy⟩ := at_of_lt HLs.out hlt
          obtain ⟨b, o, ha, hbl, hc1, hc2⟩ := h.shelves.board_at hy
          have hc1 := lift hw2 hc1
          have hc2 := lift hw2 hc2
          have hy0 := HR.out y (List.mem_of_getElem? hy)
          have HY := Lib.hid hy
          rw [ha]
          clear hy ha
          have hcu : (usedC p)[k]? = some (.int .i64 (cnt p k)) := by
            have : k = 0 ∨ k = 1 ∨ k = 2 := by omega
            rcases this with rfl | rfl | rfl <;> rfl
          have hcl : 0 ≤ cnt p k ∧ cnt p k ≤ 5 := ⟨cnt_nonneg _ _, by have := cnt_le p k; have := HL.out; omega⟩
          have hk3 : k < 3 := by omega
          go_wp2
          obtain ⟨W3, hNW3, BX3, hW3, hzW3⟩ := Box.named wr #[.int .i64 y.room, .int .i64 y.draft] 182
          rw [hNW3]
          clear hNW3
          have uk := ((BU.lift hb2).lift hW3).cell k _ hcu
          have e0 := BX3.cell 0 (.int .i64 y.room) rfl
          by_cases hrm : y.room < cnt p k
          · have HRM := Lib.hid hrm
            have zz0 := fun x : After W3 => At.cell uk x
            have zz1 := fun x : After W3 => At.cell e0 x
            refine wp_region_after (by kernel_rfl) (by kernel_rfl) ?_
            repeat (go_big_quiet_step ((fail)))
            refine wpQuiet_nil ?_
            intro W4 hbW4
            clear zz0 zz1
            go_wp2
            go_ret
            exact ⟨ret_bool (isPlace_room HY.out hy0 HRM.out), below_on (below_on hw2 hW3) hbW4⟩
          · have HRM := Lib.hid hrm
            have zz0 := fun x : After W3 => At.cell uk x
            have zz1 := fun x : After W3 => At.cell e0 x
            refine wp_region_after (by kernel_rfl) (by kernel_rfl) ?_
            repeat (go_big_quiet_step ((fail)))
            refine wpQuiet_nil ?_
            intro W4 hbW4
            clear zz0 zz1
            go_wp2
            go_roundw
            case measure => simp [intOf]; omega
            case rel => exact ⟨k + 1, by omega, by go_num, by
              show ∀ j b, _
              intro j b hj hjb
              by_cases e : j = k
              · subst e
                have := HY.out
                rw [hjb] at this
                cases this
                have := HRM.out
                omega
              · exact hq.out j b (by omega) hjb, below_on (below_on hb2 hW3) hbW4⟩
        · obtain rfl : k = v.shelves.n := by omega
          go_wp2
          go_ret
          refine ⟨ret_bool (isPlace_yes (by rw [HL.out, HLc.out]; exact HLN.out) HQ.out (fun j b hjb => hq.out j b ?_ hjb)), hw2⟩
          have := lt_of_at hjb
          have := HLs.out
          omega
end Go.Proofs.YtenfnakhijobkaaGreat
namespace Go.Proofs.YtenfnakhijobkaaGreat
open Go.RowKit Go.Proofs.YtenfnakhijobkaaGreatW.PrintLast
theorem wet_any (s : Sl) (xs : List Int) (i : Nat) (x : Int) (w : World) (h : RdInts w s xs) (hx : xs[i]? = some x) :
    Calls Tryz.prog 183 #[.slice s.a s.n s.c, .int .i64 i] w fun e w' => e = .returned (.int .i64 (min x 1)) ∧ Below w.heap.size w w' := by
  obtain ⟨sa, sn, sc⟩ := s
  have hs : sn ≤ 281474976710656 := by have := h.small; simp at this; omega
  have hlt : i < sn := by have := lt_of_at hx; have := h.len; simp only at this; omega
  obtain ⟨b, o, ha, hbl, hc⟩ := h.int_at hx
  simp only at ha
  subst ha
  clear hx
  go_enter Tryz.func183, Tryz.ntmps183
  go_wp2_with (go_at_call 177; refine (minimum_any w.heap.size 0 2 _ _ _ ((Box.new w _ 3).cell 0 _ rfl) ((Box.new w _ 3).cell 1 _ rfl)).mono ?_; rintro e w1 ⟨rfl, rfl⟩)
  go_ret
  exact ⟨rfl, below_box _ _⟩
theorem always_any (w : World) : Calls Tryz.prog 118 #[] w fun e w' => e = .returned (.bool true) ∧ w = w' := by
  go_enter Tryz.func118, Tryz.ntmps118
  go_wp2
  go_ret
  exact ⟨rfl, rfl⟩
theorem StuckFine_any (v : LoftV) (l : LoftD) (hl : LOk l) (s : Sl) (p : List Int) (B1 B2 : Nat) (w : World) (h : RdLoft w v l) (hp : RdInts w s p) (hB1 : Box w B1 v.cs 44) (hB2 : Box w B2 #[.slice s.a s.n s.c] 25) :
    Calls Tryz.prog 160 #[.pointer (some ⟨B1, 0, none⟩), .pointer (some ⟨B2, 0, none⟩)] w fun e w' => e = .returned (.bool (isPlace l p)) ∧ Below w.heap.size w w' := by
  have c0 := hB1.cell 0 (.int .i64 v.last) rfl
  have c1 := hB1.cell 1 (.slice v.air.a v.air.n v.air.c) rfl
  have c2 := hB1.cell 2 (.slice v.shelves.a v.shelves.n v.shelves.c) rfl
  have c3 := hB1.cell 3 (.slice v.cakes.a v.cakes.n v.cakes.c) rfl
  have c4 := hB1.cell 4 (.slice v.put.a v.put.n v.put.c) rfl
  have c5 := hB1.cell 5 (.slice v.weights.a v.weights.n v.weights.c) rfl
  have e0 := hB2.cell 0 (.slice s.a s.n s.c) rfl
  go_enter Tryz.func160, Tryz.ntmps160
  go_wp2_with (go_at_call 115; refine (isPlaceP_any v l s p _ h hp hl.shelves3 hl.cakes5 (fun b hb => (hl.shelves b hb).1)).mono ?_; rintro e w1 ⟨rfl, hb1⟩)
  go_ret
  exact ⟨rfl, hb1⟩
theorem DayFine_any (v : LoftV) (l : LoftD) (hl : LOk l) (s : Sl) (p : List Int) (k : Int) (B1 B2 B3 : Nat) (w : World) (h : RdLoft w v l) (hp : RdInts w s p) (hB1 : Box w B1 v.cs 44) (hB2 : Box w B2 #[.slice s.a s.n s.c] 25) (hB3 : Box w B3 #[.int .i64 k] 3) :
    Calls Tryz.prog 114 #[.pointer (some ⟨B1, 0, none⟩), .pointer (some ⟨B2, 0, none⟩), .pointer (some ⟨B3, 0, none⟩)] w fun e w' => e = .returned (.bool (isPlace l p && l.is k)) ∧ Below w.heap.size w w' := by
  have c0 := hB1.cell 0 (.int .i64 v.last) rfl
  have c1 := hB1.cell 1 (.slice v.air.a v.air.n v.air.c) rfl
  have c2 := hB1.cell 2 (.slice v.shelves.a v.shelves.n v.shelves.c) rfl
  have c3 := hB1.cell 3 (.slice v.cakes.a v.cakes.n v.cakes.c) rfl
  have c4 := hB1.cell 4 (.slice v.put.a v.put.n v.put.c) rfl
  have c5 := hB1.cell 5 (.slice v.weights.a v.weights.n v.weights.c) rfl
  have e0 := hB2.cell 0 (.slice s.a s.n s.c) rfl
  have e1 := hB3.cell 0 (.int .i64 k) rfl
  cases hpl : isPlace l p
  · go_enter Tryz.func114, Tryz.ntmps114
    go_wp2_with (go_at_call 115; refine (call_b (isPlaceP_any v l s p _ h hp hl.shelves3 hl.cakes5 (fun b hb => (hl.shelves b hb).1)) hpl).mono ?_; rintro e w1 ⟨rfl, hb1⟩)
    go_ret
    exact ⟨rfl, hb1⟩
  · go_enter Tryz.func114, Tryz.ntmps114
    go_wp2_with (first | (go_at_call 115; refine (call_b (isPlaceP_any v l s p _ h hp hl.shelves3 hl.cakes5 (fun b hb => (hl.shelves b hb).1)) hpl).mono ?_; rintro e w1 ⟨rfl, hb1⟩; have d0 := (hB1.lift hb1).cell 0 (.int .i64 v.last) rfl; have d1 := (hB1.lift hb1).cell 1 (.slice v.air.a v.air.n v.air.c) rfl; have d2 := (hB1.lift hb1).cell 2 (.slice v.shelves.a v.shelves.n v.shelves.c) rfl; have d3 := (hB1.lift hb1).cell 3 (.slice v.cakes.a v.cakes.n v.cakes.c) rfl; have d4 := (hB1.lift hb1).cell 4 (.slice v.put.a v.put.n v.put.c) rfl; have d5 := (hB1.lift hb1).cell 5 (.slice v.weights.a v.weights.n v.weights.c) rfl; have d6 := (hB3.lift hb1).cell 0 (.int .i64 k) rfl) | (go_at_call 116; refine (is_any v l k _ (h.below hb1)).mono ?_; rintro e w2 ⟨rfl, hb2⟩))
    go_ret
    exact ⟨ret_bool (by simp), below_on hb1 hb2⟩
end Go.Proofs.YtenfnakhijobkaaGreat
